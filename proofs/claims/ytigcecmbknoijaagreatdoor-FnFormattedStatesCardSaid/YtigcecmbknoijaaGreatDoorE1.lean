/- A part. -/
import Derived.Orders
import Derived.Lib.ItoaNum
import Derived.Below
import Derived.KernelRfl
import Derived.Maps.AppendAt
import Derived.Laws.MakeOwn
import Derived.Tactics
import Derived.Laws.Strings
import Derived.Great.FillDense
import Derived.Deep.Slices
import Derived.WideShapes
import Derived.ProofKit
import Derived.OpenShut
import Derived.ChangeOld
import Derived.Laws.Slices
import Derived.Laws.Small
import Derived.Laws.StructEq
set_option linter.unusedVariables false
set_option linter.unusedSimpArgs false
set_option maxHeartbeats 4000000
open Option renaming some->ς,none->ξ
open Bool renaming true->ζ,false->η
open True renaming intro->θ
open List renaming getElem?_eq_getElem->Yb,getElem?_eq_some_iff->Yc,mem_of_getElem?->Yd,take_succ_cons->YH,mem_cons->Yh,eq_nil_of_length_eq_zero->YD,replicate->Yo,getElem?_append_right->Ys,pairwise_iff_getElem->YE,findIdx?_eq_some_iff_getElem->YR,length_cons->Yg,cons_append->Yv,getElem?_of_mem->Yn,getElem?_append_left->Yt,range->v0,drop_drop->YO,any_eq_true->YF,getElem?_drop->YL,getElem?_take->YK,drop_eq_getElem_cons->YS,findIdx?_eq_none_iff->YU,length_eq_zero_iff->YY,length_map->YA,mem_of_mem_take->YG,all_cons->Yy,drop_succ_cons->Y2,length_append->YB,getElem?_map->YM,all_eq_true->Yi,nodup_cons->YT,mem_append->Ye,drop_zero->YX,map_cons->Yq
open Nat renaming eq_of_beq_eq_true->Yf,beq->f4,mul_le_mul_right->YI,zero_add->Yl,le_refl->Yj,le_of_ble_eq_true->YJ,zero_le->Yu,add_mul_mod_self_right->Y1,ble->Yk,add_zero->YN,add_comm->YZ,lt_or_ge->Yx,lt_of_lt_of_le->Yr,mod_eq_of_lt->Y0,strongRecOn->YW
open Bool renaming and_eq_true->hV,not_eq_true'->Yz,or_eq_false_iff->Yp,or_eq_true->Yw
open Array renaming getElem?_eq_getElem->YC,replicate->Ym,ext'->YP,toArray_toList->YQ,getD->YV
namespace Go.AM
variable{w w':World}{b g g' m:Bool}{k sz n N j id l e off f ft nx nx':Nat}{u:Value}{t t' vt:TypeId}{a:Act}{P:Program}{dj:Tmp}{y:Code}{σ α ρ:Type}{i:Int}{kd:IntKind}
abbrev Lae:=List Value
abbrev Lac:=List (Nat×Nat)
theorem oaa{p:Prop}(h:p:=by omega):p:=h
def W2:Array Value:=(Lib.pow10Tab.map λz=>Value.int .u64 z).toArray
def pA:List Nat:=[1]
def Gj(w:World):Prop:=∃ty fr,w.heap[1]?=ς (.cells W2 ty fr)
theorem R7(w w':World)(h:∀b∈pA,w'.heap[b]?=w.heap[b]?)(hw:Gj w):Gj w':=by
 obtain⟨ty,fr,e⟩:=hw
 exact⟨ty,fr,by rw[h 1 (by simp[pA])];exact e⟩
theorem MA(w:World)(hw:Gj w):∀b∈pA,b<w.heap.size:=by
 obtain⟨ty,fr,e⟩:=hw
 intro k hk
 simp[pA] at hk;subst hk
 exact(Array.getElem?_eq_some_iff.1 e).1
open Go.RowKit
def nlt(a b:Nat):Bool:=Yk (a+1) b
def TabsIn(w:World):Prop:=Gj w
inductive D where
 |i (k:IntKind) (n:Int)
 |b (x:Bool)
 |str (s:ByteArray)
 |l (xs:List (List D))
 |k (A:Option Addr) (n c:Nat)
 deriving Inhabited
variable{x:Go.AM.D}{r el:List Go.AM.D}
abbrev Lad:=List (List D)
variable{els ys:Go.AM.Lad}
mutual
def rdD(w:World)(F:Nat->Prop):D->Value->Prop
 | .i k n,u=>u= .int k n
 | .b x,u=>u= .bool x
 | .str s,u=>u= .string s
 | .l xs,u=>∃A c,u= .slice A xs.length c/\xs.length<=c/\(xs=[]\/∃b off,A=ς ⟨b,off,ξ⟩/\F b/\rdLL w F xs b off)
 | .k A n c,u=>u= .slice A n c
def rdLL(w:World)(F:Nat->Prop):Lad->Nat->Nat->Prop
 |[],_,_=>True
 |e::es,b,k=>rdL w F e b k/\rdLL w F es b (k+e.length)
def rdL(w:World)(F:Nat->Prop):List D->Nat->Nat->Prop
 |[],_,_=>True
 |d::ds,b,k=>(∃u,w.cell? ⟨b,k,ξ⟩=ς u/\rdD w F d u)/\rdL w F ds b (k+1)
end
theorem tq{b:Nat}(h:w'.heap[b]?=w.heap[b]?):w'.cell? ⟨b,k,ξ⟩=w.cell? ⟨b,k,ξ⟩:=by
 simp[World.cell?,h]
mutual
theorem cm{w w':World}{F F':Nat->Prop}(hw:∀b,F b->w'.heap[b]?=w.heap[b]?)(hF:∀b,F b->F' b):
 ∀(d:D) (u:Value),rdD w F d u->rdD w' F' d u
 | .i _ _,_,h=>by simpa [rdD] using h
 | .b _,_,h=>by simpa [rdD] using h
 | .str _,_,h=>by simpa [rdD] using h
 | .l xs,u,h=>by
  rw[rdD] at h ⊢
  obtain⟨A,c,hu,hlc,h⟩:=h
  refine⟨A,c,hu,hlc,?_⟩
  rcases h with h|⟨b,off,hA,hb,h⟩
  .exact .inl h
  exact .inr ⟨b,off,hA,hF b hb,rdLL_mono hw hF xs b off hb h⟩
 | .k _ _ _,_,h=>by simpa [rdD] using h
theorem rdLL_mono{w w':World}{F F':Nat->Prop}(hw:∀b,F b->w'.heap[b]?=w.heap[b]?)(hF:∀b,F b->F' b):
 ∀(xs:Lad) (b k:Nat),F b->rdLL w F xs b k->rdLL w' F' xs b k
 |[],_,_,_,_=>by simp[rdLL]
 |e::es,b,k,hb,h=>by
  rw[rdLL] at h ⊢
  exact⟨rdL_mono hw hF e b k hb h.1,rdLL_mono hw hF es b _ hb h.2⟩
theorem rdL_mono{w w':World}{F F':Nat->Prop}(hw:∀b,F b->w'.heap[b]?=w.heap[b]?)(hF:∀b,F b->F' b):
 ∀(xs:List D) (b k:Nat),F b->rdL w F xs b k->rdL w' F' xs b k
 |[],_,_,_,_=>by simp[rdL]
 |d::ds,b,k,hb,h=>by
  rw[rdL] at h ⊢
  obtain⟨⟨u,hc,hu⟩,h⟩:=h
  exact⟨⟨u,(tq (hw b hb)).trans hc,cm hw hF d u hu⟩,rdL_mono hw hF ds b _ hb h⟩
end
theorem Ee{w w':World}{F F':Nat->Prop}(hw:∀b,F b->w'.heap[b]?=w.heap[b]?)(hF:∀b,F b->F' b){b:Nat}(hb:w'.heap[b]?=w.heap[b]?):
 ∀(xs:List D) (k:Nat),rdL w F xs b k->rdL w' F' xs b k
 |[],_,_=>by simp[rdL]
 |d::ds,k,h=>by
  rw[rdL] at h ⊢
  obtain⟨⟨u,hc,hu⟩,h⟩:=h
  exact⟨⟨u,(tq hb).trans hc,cm hw hF d u hu⟩,Ee hw hF hb ds _ h⟩
theorem cf{w w':World}{F F':Nat->Prop}(hw:∀b,F b->w'.heap[b]?=w.heap[b]?)(hF:∀b,F b->F' b){b:Nat}(hb:w'.heap[b]?=w.heap[b]?):
 ∀(xs:Lad) (k:Nat),rdLL w F xs b k->rdLL w' F' xs b k
 |[],_,_=>by simp[rdLL]
 |e::es,k,h=>by
  rw[rdLL] at h ⊢
  exact⟨Ee hw hF hb e k h.1,cf hw hF hb es _ h.2⟩
theorem lc{w:World}{F:Nat->Prop}:∀{xs:List D} {b k:Nat} {j:Nat} {d:D},rdL w F xs b k->xs[j]?=ς d->∃u,w.cell? ⟨b,k+j,ξ⟩=ς u/\rdD w F d u
 |[],_,_,_,_,_,h=>by simp at h
 |_::_,b,k,0,d,h,hj=>by
  rw[rdL] at h
  simp_all
 |_::ds,b,k,j+1,d,h,hj=>by
  rw[rdL] at h
  have:=lc (j:=j) h.2 (by simpa using hj)
  grind
theorem lO{w:World}{F:Nat->Prop}:∀{xs:List D} {b k:Nat},(∀j d,xs[j]?=ς d->∃u,w.cell? ⟨b,k+j,ξ⟩=ς u/\rdD w F d u)->rdL w F xs b k
 |[],_,_,_=>by simp[rdL]
 |d::ds,b,k,h=>by
  rw[rdL]
  refine⟨h 0 d rfl,lO λj d' hj=>?_⟩
  have:=h (j+1) d' (by simp_all)
  grind
theorem oi{w:World}{F:Nat->Prop}{sz:Nat}:∀{xs:Lad} {b k:Nat} {i:Nat} {e:List D},rdLL w F xs b k->(∀e∈xs,e.length=sz)->xs[i]?=ς e->rdL w F e b (k+i*sz)
 |[],_,_,_,_,_,_,h=>by simp at h
 |_::_,b,k,0,e,h,_,hi=>by
  rw[rdLL] at h
  simp_all
 |e0::es,b,k,i+1,e,h,hs,hi=>by
  rw[rdLL] at h
  have h0:e0.length=sz:=hs e0 (by simp)
  have:=oi (i:=i) h.2 (λx hx=>hs x (by simp[hx])) (by simpa using hi)
  grind
theorem tN{w:World}{F:Nat->Prop}{sz:Nat}:∀{xs:Lad} {b k:Nat},(∀e∈xs,e.length=sz)->(∀i e,xs[i]?=ς e->rdL w F e b (k+i*sz))->rdLL w F xs b k
 |[],_,_,_,_=>by simp[rdLL]
 |e0::es,b,k,hs,h=>by
  rw[rdLL]
  have h0:e0.length=sz:=hs e0 (by simp)
  refine⟨by simpa using h 0 e0 rfl,tN (λx hx=>hs x (by simp[hx])) λi e hi=>?_⟩
  have:=h (i+1) e (by simp_all)
  grind
theorem sJ{F:Nat->Prop}{xs:Lad}{b:Nat}(h:rdLL w F xs b k)(hs:∀e∈xs,e.length=sz)(m:Nat):rdLL w F (xs.drop m) b (k+m*sz):=
 tN (λe he=>hs e (List.mem_of_mem_drop he)) λi e hi=>by
  rw[YL] at hi
  have:=oi h hs hi
  grind
theorem nY{w:World}{F:Nat->Prop}:∀{xs:Lad} {b k:Nat} (m:Nat),rdLL w F xs b k->rdLL w F (xs.take m) b k
 |[],_,_,_,_=>by simp[rdLL]
 |_::_,_,_,0,_=>by simp[rdLL]
 |e::es,b,k,m+1,h=>by
  rw[rdLL] at h
  rw[YH,rdLL]
  exact⟨h.1,nY m h.2⟩
theorem MF{sz:Nat}:∀{xs:Lad},(∀e∈xs,e.length=sz)->(xs.map List.length).sum=xs.length*sz
 |[],_=>by simp
 |e::es,h=>by
  simp[h e (by simp),MF (xs:=es) λx hx=>h x (by simp[hx]),Nat.add_mul]
  omega
theorem tM{F:Nat->Prop}{d:D}(h:rdD w F d u):u.oneCell'=true:=by
 cases d<;>simp only[rdD] at h
 case l xs=>obtain⟨A,c,rfl,_⟩:=h;rfl
 all_goals subst h;rfl
theorem zM{F:Nat->Prop}{d:D}(h:rdD w F d u):u.cells= #[u]:=by
 cases d<;>simp only[rdD] at h
 case l xs=>obtain⟨A,c,rfl,_⟩:=h;rfl
 all_goals subst h;rfl
def Km(u u':Value):Prop:=u'=u\/(∃k n m,u= .int k n/\u'= .int k m)\/(∃x y,u= .bool x/\u'= .bool y)\/(∃s t,u= .string s/\u'= .string t)
theorem Km.trans{v x:Value}(h:Km u v)(h':Km v x):Km u x:=by
 rcases h with rfl|⟨k,n,m,rfl,rfl⟩|⟨a,b,rfl,rfl⟩|⟨s,t,rfl,rfl⟩
 .exact h'
 .rcases h' with rfl|⟨k',n',m',h1,rfl⟩|⟨a,b,h1,rfl⟩|⟨s,t,h1,rfl⟩
  .exact .inr (.inl ⟨_,_,_,rfl,rfl⟩)
  .cases h1;exact .inr (.inl ⟨_,_,_,rfl,rfl⟩)
  .cases h1
  cases h1
 .rcases h' with rfl|⟨k',n',m',h1,rfl⟩|⟨a,b,h1,rfl⟩|⟨s,t,h1,rfl⟩
  .exact .inr (.inr (.inl ⟨_,_,rfl,rfl⟩))
  .cases h1
  .cases h1;exact .inr (.inr (.inl ⟨_,_,rfl,rfl⟩))
  cases h1
 rcases h' with rfl|⟨k',n',m',h1,rfl⟩|⟨a,b,h1,rfl⟩|⟨s,t,h1,rfl⟩
 .exact .inr (.inr (.inr ⟨_,_,rfl,rfl⟩))
 .cases h1
 .cases h1
 cases h1;exact .inr (.inr (.inr ⟨_,_,rfl,rfl⟩))
def pM(w w':World)(b:Nat):Prop:=∀k u,w.cell? ⟨b,k,ξ⟩=ς u->∃u',w'.cell? ⟨b,k,ξ⟩=ς u'/\Km u u'
theorem pM.refl(w:World)(b:Nat):pM w w b:=λ_ u h=>⟨u,h,.inl rfl⟩
theorem pM.of_eq{b:Nat}(h:w'.heap[b]?=w.heap[b]?):pM w w' b:=λ_ u hc=>⟨u,(tq h).trans hc,.inl rfl⟩
theorem pM.trans{w'':World}{b:Nat}(h:pM w w' b)(h':pM w' w'' b):pM w w'' b:=λk u hc=>by
 obtain⟨u',h1,h2⟩:=h k u hc
 obtain⟨u'',h3,h4⟩:=h' k u' h1
 exact⟨u'',h3,h2.trans h4⟩
mutual
def rsD(w:World)(F:Nat->Prop):D->Value->Prop
 | .i k _,u=>∃m,u= .int k m
 | .b _,u=>∃x,u= .bool x
 | .str _,u=>∃s,u= .string s
 | .l xs,u=>∃A c,u= .slice A xs.length c/\xs.length<=c/\(xs=[]\/∃b off,A=ς ⟨b,off,ξ⟩/\F b/\rsLL w F xs b off)
 | .k A n c,u=>u= .slice A n c
def rsLL(w:World)(F:Nat->Prop):Lad->Nat->Nat->Prop
 |[],_,_=>True
 |e::es,b,k=>rsL w F e b k/\rsLL w F es b (k+e.length)
def rsL(w:World)(F:Nat->Prop):List D->Nat->Nat->Prop
 |[],_,_=>True
 |d::ds,b,k=>(∃u,w.cell? ⟨b,k,ξ⟩=ς u/\rsD w F d u)/\rsL w F ds b (k+1)
end
theorem UQ{F:Nat->Prop}{d:D}{u':Value}(h:rsD w F d u)(hs:Km u u'):rsD w F d u':=by
 rcases hs with rfl|⟨k,n,m,rfl,rfl⟩|⟨a,b,rfl,rfl⟩|⟨s,t,rfl,rfl⟩
 .exact h
 all_goals cases d<;>simp only[rsD] at h ⊢
 all_goals first
  |(obtain⟨A,c,h,_⟩:=h;cases h;done)
  |(obtain⟨m',h⟩:=h;cases h;done)
  |(obtain⟨m',h⟩:=h;cases h;exact⟨_,rfl⟩)
  |(cases h;done)
mutual
theorem sK{w w':World}{F F':Nat->Prop}(hw:∀b,F b->pM w w' b)(hF:∀b,F b->F' b):
 ∀(d:D) (u:Value),rsD w F d u->rsD w' F' d u
 | .i _ _,_,h=>by simpa [rsD] using h
 | .b _,_,h=>by simpa [rsD] using h
 | .str _,_,h=>by simpa [rsD] using h
 | .l xs,u,h=>by
  rw[rsD] at h ⊢
  obtain⟨A,c,hu,hlc,h⟩:=h
  refine⟨A,c,hu,hlc,?_⟩
  rcases h with h|⟨b,off,hA,hb,h⟩
  .exact .inl h
  exact .inr ⟨b,off,hA,hF b hb,rsLL_mono hw hF xs b off hb h⟩
 | .k _ _ _,_,h=>by simpa [rsD] using h
theorem rsLL_mono{w w':World}{F F':Nat->Prop}(hw:∀b,F b->pM w w' b)(hF:∀b,F b->F' b):
 ∀(xs:Lad) (b k:Nat),F b->rsLL w F xs b k->rsLL w' F' xs b k
 |[],_,_,_,_=>by simp[rsLL]
 |e::es,b,k,hb,h=>by
  rw[rsLL] at h ⊢
  exact⟨rsL_mono hw hF e b k hb h.1,rsLL_mono hw hF es b _ hb h.2⟩
theorem rsL_mono{w w':World}{F F':Nat->Prop}(hw:∀b,F b->pM w w' b)(hF:∀b,F b->F' b):
 ∀(xs:List D) (b k:Nat),F b->rsL w F xs b k->rsL w' F' xs b k
 |[],_,_,_,_=>by simp[rsL]
 |d::ds,b,k,hb,h=>by
  rw[rsL] at h ⊢
  obtain⟨⟨u,hc,hu⟩,h⟩:=h
  obtain⟨u',hc',hs⟩:=hw b hb k u hc
  exact⟨⟨u',hc',sK hw hF d u' (UQ hu hs)⟩,rsL_mono hw hF ds b _ hb h⟩
end
mutual
theorem W7{w:World}{F:Nat->Prop}:∀(d:D) (u:Value),rdD w F d u->rsD w F d u
 | .i _ n,_,h=>by rw[rdD] at h;rw[rsD];simp_all
 | .b x,_,h=>by rw[rdD] at h;rw[rsD];simp_all
 | .str s,_,h=>by rw[rdD] at h;rw[rsD];simp_all
 | .l xs,u,h=>by
  rw[rdD] at h;rw[rsD]
  obtain⟨A,c,hu,hlc,h⟩:=h
  refine⟨A,c,hu,hlc,?_⟩
  rcases h with h|⟨b,off,hA,hb,h⟩
  .exact .inl h
  exact .inr ⟨b,off,hA,hb,rsLL_of xs b off h⟩
 | .k _ _ _,_,h=>by rw[rdD] at h;rw[rsD];exact h
theorem rsLL_of{w:World}{F:Nat->Prop}:∀(xs:Lad) (b k:Nat),rdLL w F xs b k->rsLL w F xs b k
 |[],_,_,_=>by simp[rsLL]
 |e::es,b,k,h=>by
  rw[rdLL] at h;rw[rsLL]
  exact⟨rsL_of e b k h.1,rsLL_of es b _ h.2⟩
theorem rsL_of{w:World}{F:Nat->Prop}:∀(xs:List D) (b k:Nat),rdL w F xs b k->rsL w F xs b k
 |[],_,_,_=>by simp[rsL]
 |d::ds,b,k,h=>by
  rw[rdL] at h;rw[rsL]
  obtain⟨⟨u,hc,hu⟩,h⟩:=h
  exact⟨⟨u,hc,W7 d u hu⟩,rsL_of ds b _ h⟩
end
theorem Ke{w:World}{F:Nat->Prop}:∀{xs:List D} {b k:Nat} {j:Nat} {d:D},rsL w F xs b k->xs[j]?=ς d->∃u,w.cell? ⟨b,k+j,ξ⟩=ς u/\rsD w F d u
 |[],_,_,_,_,_,h=>by simp at h
 |_::_,b,k,0,d,h,hj=>by
  rw[rsL] at h
  simp_all
 |_::ds,b,k,j+1,d,h,hj=>by
  rw[rsL] at h
  have:=Ke (j:=j) h.2 (by simpa using hj)
  grind
theorem Kd{F:Nat->Prop}{d:D}(h:rsD w F d u):u.oneCell'=ζ/\u.cells= #[u]:=by
 cases d<;>simp only[rsD] at h
 case l xs=>obtain⟨A,c,rfl,_⟩:=h;exact⟨rfl,rfl⟩
 all_goals obtain⟨_,rfl⟩:=h;exact⟨rfl,rfl⟩
inductive C where
 |d (g:Bool) (x:D)
 |w (o n:Nat)
 |s (o sz off len:Nat)
 |p (o k:Nat)
 |e (o sz i j:Nat)
 |q (g:Bool) (x:List D) (j:Nat)
 |fn (f:FuncId)
 |nil
 |any
 |r (l:Nat) (x:D)
 |z (x:D)
 |zq (x:List D) (j:Nat)
 |wn (o n:Nat)
variable{cs:List Go.AM.C}
inductive V where
 |c (x:C)
 |agg (cs:List C)
variable{vs:List Go.AM.V}
inductive T where
 |v (x:V)
 |tup (ts:List V)
 |any
variable{out:Go.AM.T}
abbrev Lab:=List (Nat×T)
variable{sl sl':Go.AM.Lab}
structure Hid where
 nl:Prop
 S:Nat->Nat->(Nat->Prop)->World->Prop
 st:∀(b c:Nat) (R R':Nat->Prop) (w w':World),S b c R w->(∀k,R k->R' k)->w'.heap[b]?=w.heap[b]?->(∀k,R k->w'.heap[k]?=w.heap[k]?)->S b c R' w'
inductive Ob where
 |var (ty:TypeId) (cs:List C)
 |row (ty:TypeId) (sz:Nat) (els:Lad) (g m:Bool)
 |rown (ty:TypeId) (sz:Nat) (els:Lad) (g:Bool)
 |abs (l:Nat) (h:Hid)
abbrev Laa:=List (Nat×Ob)
variable{nob nw ob':Go.AM.Laa}
abbrev tI(n:Int):T:=.v (.c (.d η (.i .i64 n)))
abbrev tB(b:Bool):T:=.v (.c (.d η (.b b)))
abbrev tS(s:ByteArray):T:=.v (.c (.d η (.str s)))
abbrev cI(n:Int):C:=.d η (.i .i64 n)
structure Env where
 r:Nat->Option (Nat×Nat)
 F:Nat->Prop
 G:Nat->Prop
 T:Nat->Nat->Prop:=λ_ _=>False
 Z:Nat->Prop:=λ_=>False
 n:Nat->Prop:=λ_=>False
variable{E E':Go.AM.Env}
def Env.H(E:Env)(g:Bool):Nat->Prop:=if g then E.G else E.F
def cvC(E:Env)(w:World):C->Value->Prop
 | .d g x,u=>rdD w (E.H g) x u
 | .w o n,u=>∃b c,E.r o=ς (b,c)/\u= .slice (ς ⟨b,0,ξ⟩) n c
 | .s o sz off len,u=>∃A c b k,E.r o=ς (b,k)/\u= .slice A len c/\len<=c/\off+c<=k/\(c=0\/A=ς ⟨b,off*sz,ξ⟩)
 | .p o k,u=>∃b c,E.r o=ς (b,c)/\u= .pointer (ς ⟨b,k,ξ⟩)
 | .e o sz i j,u=>∃b c,E.r o=ς (b,c)/\u= .pointer (ς ⟨b,i*sz+j,ξ⟩)
 | .q g x j,u=>∃b k,u= .pointer (ς ⟨b,k+j,ξ⟩)/\E.H g b/\rdL w (E.H g) x b k
 | .fn f,u=>u= .func (.func f) #[] #[]
 | .nil,u=>u= .slice ξ 0 0
 | .any,_=>True
 | .r l x,u=>rdD w (E.T l) x u
 | .z x,u=>rsD w E.Z x u
 | .zq x j,u=>∃b k,u= .pointer (ς ⟨b,k+j,ξ⟩)/\E.Z b/\rsL w E.Z x b k
 | .wn o n,u=>(E.n o/\n=0/\u= .slice ξ 0 0)\/(¬E.n o/\∃b c,E.r o=ς (b,c)/\u= .slice (ς ⟨b,0,ξ⟩) n c)
def CV(E:Env)(w:World):List C->Lae->Prop
 |[],[]=>True
 |c::cs,u::us=>cvC E w c u/\CV E w cs us
 |_,_=>False
def cvV(E:Env)(w:World):V->Value->Prop
 | .c x,u=>cvC E w x u
 | .agg cs,u=>∃arr,u= .agg arr/\CV E w cs arr.toList
def VV(E:Env)(w:World):List V->Lae->Prop
 |[],[]=>True
 |c::cs,u::us=>cvV E w c u/\VV E w cs us
 |_,_=>False
def cvT(E:Env)(w:World):T->Value->Prop
 | .v x,u=>cvV E w x u
 | .tup ts,u=>∃arr,u= .tuple arr/\VV E w ts arr.toList
 | .any,_=>True
def cB(E:Env)(w:World)(o:Nat):Ob->Prop
 | .var ty cs=>∃b c arr,E.r o=ς (b,c)/\w.heap[b]?=ς (.cells arr ty (0,0))/\CV E w cs arr.toList/\¬E.F b
 | .row ty sz els g m=>∃b c arr,E.r o=ς (b,c)/\w.heap[b]?=ς (.cells arr ty (0,0))/\arr.size=c*sz/\els.length<=c/\c<=maxLen/\
  (∀e∈els,e.length=sz)/\rdLL w (E.H g) els b 0/\(m=ζ->¬E.F b)/\(m=η->E.F b/\(g=ζ->E.G b))
 | .rown ty sz els g=>(E.n o/\els=[])\/(¬E.n o/\∃b c arr,E.r o=ς (b,c)/\w.heap[b]?=ς (.cells arr ty (0,0))/\arr.size=c*sz/\els.length<=c/\c<=maxLen/\
  (∀e∈els,e.length=sz)/\rdLL w (E.H g) els b 0/\¬E.F b)
 | .abs l h=>(E.n o/\h.nl)\/(¬E.n o/\∃b c,E.r o=ς (b,c)/\h.S b c (E.T l) w/\¬E.F b)
structure Cx where
 w0:World
 W:Nat->Prop
 r0:Nat->Option (Nat×Nat):=λ_=>ξ
 F0:Nat->Prop:=λ_=>True
 Z:Nat->Prop:=λ_=>False
 gw:TabsIn w0/\∀b∈pA,¬W b
 G0:Nat->Prop:=λ_=>False
def rsv(o:Nat):Bool:=Yk 190 o&&nlt o 210
def rsp(o:Nat):Bool:=Yk 200 o&&nlt o 210
theorem F7{o:Nat}(h:rsp o=ζ):rsv o=true:=by
 simp only[rsp,rsv,nlt,hV,Nat.ble_eq] at h ⊢
 omega
theorem pk{o:Nat}(h:rsv o=η):rsp o=false:=by
 cases k:rsp o with
 |false=>rfl
 |true=>rw[F7 k] at h;cases h
def iV(w:World)(b:Nat):Prop:=∃arr ty fz,w.heap[b]?=ς (.cells arr ty fz)/\(fz=(0,0)\/arr.size<=fz.1)
theorem iV.mk{b:Nat}{arr:Array Value}{ty:TypeId}(h:w.heap[b]?=ς (.cells arr ty (0,0))):iV w b:=⟨arr,ty,_,h,.inl rfl⟩
structure Ao(cx:Cx)(E:Env)(w:World):Prop where
 tb:∀l b,E.T l b->(b<w.heap.size/\cx.w0.heap.size<=b)/\¬E.F b/\(∀o c,E.r o≠ς (b,c))/\iV w b
 tt:∀l l' b,E.T l b->E.T l' b->l=l'
 zc:∀b,cx.Z b->(b<cx.w0.heap.size/\b<w.heap.size/\cx.W b)/\¬E.F b/\(∀o c,E.r o≠ς (b,c))/\iV w b
 zs:∀b,cx.Z b->pM cx.w0 w b
 ze:∀b,E.Z b->cx.Z b
theorem Ao.zb{cx:Cx}(s:Ao cx E w)(b:Nat)(h:E.Z b):(b<cx.w0.heap.size/\b<w.heap.size/\cx.W b)/\¬E.F b/\(∀o c,E.r o≠ς (b,c))/\iV w b:=s.zc b (s.ze b h)
structure da(cx:Cx)(E:Env)(w:World):Prop where
 fb:∀b,E.F b->b<w.heap.size
 gf:∀b,E.G b->E.F b
 gn:∀b,E.G b->cx.w0.heap.size<=b\/cx.G0 b
 rb:∀o b c,E.r o=ς (b,c)->b<w.heap.size/\(cx.w0.heap.size<=b\/(cx.W b/\rsv o=ζ))
 inj:∀o o' b c c',E.r o=ς (b,c)->E.r o'=ς (b,c')->o=o'
 os:w.os=cx.w0.os
 tape:w.tape=cx.w0.tape
 output:w.output=cx.w0.output
 size:cx.w0.heap.size<=w.heap.size
 block:∀b,b<cx.w0.heap.size->¬cx.W b->w.heap[b]?=cx.w0.heap[b]?
 pin:∀o x,rsp o=ζ->E.r o=ς x->cx.r0 o=ς x
 ff:∀b,E.F b->cx.F0 b\/cx.w0.heap.size<=b
 gc:∀b,E.F b->cx.w0.heap.size<=b->iV w b
 sf:Ao cx E w
theorem Ll{b:Nat}{o:Obj}(h:w.heap[b]?=ς o):b<w.heap.size:=by
 grind
theorem da.tabs{cx:Cx}(ok:da cx E w):TabsIn w:=
 R7 cx.w0 w (λb hb=>ok.block b (MA _ cx.gw.1 b hb) (cx.gw.2 b hb)) cx.gw.1
theorem da.ntab{cx:Cx}(ok:da cx E w){o b c:Nat}(h:E.r o=ς (b,c)):∀k∈pA,k≠b:=λk hk e=>by
 have:=MA _ cx.gw.1 k hk
 subst e
 rcases(ok.rb o _ c h).2 with m|m
 .omega
 exact cx.gw.2 _ hk m.1
structure Ext(E:Env)(w:World)(E':Env)(w':World):Prop where
 r:∀o x,E.r o=ς x->E'.r o=ς x
 F:∀b,E.F b->E'.F b
 G:∀b,E.G b->E'.G b
 F':∀b,E'.F b->E.F b\/w.heap.size<=b
 heap:∀b,b<w.heap.size->w'.heap[b]?=w.heap[b]?
 T:E'.T=E.T
 Z:E'.Z=E.Z
 n:E'.n=E.n
theorem Ext.refl(E:Env)(w:World):Ext E w E w:=⟨λ_ _ h=>h,λ_ h=>h,λ_ h=>h,λ_ h=>.inl h,λ_ _=>rfl,rfl,rfl,rfl⟩
theorem iV.of_eq{b:Nat}(h:w'.heap[b]?=w.heap[b]?)(p:iV w b):iV w' b:=by
 obtain⟨arr,ty,fz,hp,hf⟩:=p
 exact⟨arr,ty,fz,h.trans hp,hf⟩
theorem Ao.grow{cx:Cx}(s:Ao cx E w)(hT:E'.T=E.T)(hZ:E'.Z=E.Z)(hF:∀b,E'.F b->E.F b\/w.heap.size<=b)(hr:∀o b c,E'.r o=ς (b,c)->(∃o' c',E.r o'=ς (b,c'))\/w.heap.size<=b)(hs:w.heap.size<=w'.heap.size)(hh:∀b,b<w.heap.size->w'.heap[b]?=w.heap[b]?):Ao cx E' w':=by
 refine⟨λl b h=>?_,λl l' b h h'=>?_,λb h=>?_,λb h=>?_,λb h=>s.ze b (hZ▸h)⟩
 .rw[hT] at h
  obtain⟨⟨h1,h2⟩,h3,h4,h5⟩:=s.tb l b h
  refine⟨⟨by omega,h2⟩,λhf=>?_,λo c ho=>?_,h5.of_eq (hh b h1)⟩
  .grind
  grind
 .rw[hT] at h h';exact s.tt l l' b h h'
 .obtain⟨⟨h1,h2,h2'⟩,h3,h4,h5⟩:=s.zc b h
  refine⟨⟨h1,by omega,h2'⟩,λhf=>?_,λo c ho=>?_,h5.of_eq (hh b h2)⟩
  .grind
  grind
 exact(s.zs b h).trans (.of_eq (hh b (s.zc b h).1.2.1))
theorem da.hb{cx:Cx}(ok:da cx E w){b:Nat}(h:E.H g b):b<w.heap.size:=by
 cases g
 .exact ok.fb b h
 exact ok.fb b (ok.gf b h)
theorem Ext.H(x:Ext E w E' w'){b:Nat}(h:E.H g b):E'.H g b:=by
 cases g
 .exact x.F b h
 exact x.G b h
structure jV(E:Env)(w:World)(E':Env)(w':World):Prop where
 r:∀o x,E.r o=ς x->E'.r o=ς x
 H:∀g b,E.H g b->E'.H g b
 heap:∀g b,E.H g b->w'.heap[b]?=w.heap[b]?
 T:∀l b,E.T l b->E'.T l b/\w'.heap[b]?=w.heap[b]?
 Z:∀b,E.Z b->E'.Z b/\pM w w' b
 n:E'.n=E.n
theorem jV.of_ext{cx:Cx}(ok:da cx E w)(x:Ext E w E' w'):jV E w E' w':=
 ⟨x.r,λ_ _ h=>x.H h,λ_ b h=>x.heap b (ok.hb h),λl b h=>⟨by rw[x.T];exact h,x.heap b (ok.sf.tb l b h).1.1⟩,λb h=>⟨by rw[x.Z];exact h,.of_eq (x.heap b (ok.sf.zb b h).1.2.1)⟩,x.n⟩
theorem sj(x:jV E w E' w'):∀{c:C} {u:Value},cvC E w c u->cvC E' w' c u
 | .d g d,u,h=>cm (x.heap g) (x.H g) d u h
 | .w o n,u,⟨b,c,h,hu⟩=>⟨b,c,x.r _ _ h,hu⟩
 | .s o sz off len,u,⟨A,c,b,k,h,hu⟩=>⟨A,c,b,k,x.r _ _ h,hu⟩
 | .p o k,u,⟨b,c,h,hu⟩=>⟨b,c,x.r _ _ h,hu⟩
 | .e o sz i j,u,⟨b,c,h,hu⟩=>⟨b,c,x.r _ _ h,hu⟩
 | .q g y j,u,⟨b,k,hu,hb,h⟩=>⟨b,k,hu,x.H g b hb,rdL_mono (x.heap g) (x.H g) y b k hb h⟩
 | .fn f,u,h=>h
 | .nil,u,h=>h
 | .any,u,_=>trivial
 | .r l d,u,h=>cm (λb hb=>(x.T l b hb).2) (λb hb=>(x.T l b hb).1) d u h
 | .z d,u,h=>sK (λb hb=>(x.Z b hb).2) (λb hb=>(x.Z b hb).1) d u h
 | .zq y j,u,⟨b,k,hu,hb,h⟩=>⟨b,k,hu,(x.Z b hb).1,rsL_mono (λb hb=>(x.Z b hb).2) (λb hb=>(x.Z b hb).1) y b k hb h⟩
 | .wn o n,u,.inl ⟨h1,h2⟩=>.inl ⟨by rw[x.n];exact h1,h2⟩
 | .wn o n,u,.inr ⟨h1,b,c,h,hu⟩=>.inr ⟨by rw[x.n];exact h1,b,c,x.r _ _ h,hu⟩
theorem pK{E E':Env}{w w':World}(x:jV E w E' w'):∀{cs:List C} {us:Lae},CV E w cs us->CV E' w' cs us
 |[],[],_=>trivial
 |_::_,_::_,h=>⟨sj x h.1,pK x h.2⟩
 |[],_::_,h=>h.elim
 |_::_,[],h=>h.elim
theorem DF(x:jV E w E' w'){v:V}(h:cvV E w v u):cvV E' w' v u:=by
 cases v with
 |c c=>exact sj x h
 |agg cs=>obtain⟨arr,hu,h⟩:=h;exact⟨arr,hu,pK x h⟩
theorem GQ{E E':Env}{w w':World}(x:jV E w E' w'):∀{cs:List V} {us:Lae},VV E w cs us->VV E' w' cs us
 |[],[],_=>trivial
 |_::_,_::_,h=>⟨DF x h.1,GQ x h.2⟩
 |[],_::_,h=>h.elim
 |_::_,[],h=>h.elim
theorem jM(x:jV E w E' w'){t:T}(h:cvT E w t u):cvT E' w' t u:=by
 cases t with
 |v v=>exact DF x h
 |tup ts=>obtain⟨arr,hu,h⟩:=h;exact⟨arr,hu,GQ x h⟩
 |any=>trivial
theorem f8(x:jV E w E' w'){o:Nat}{ob:Ob}(hb:∀b c,E.r o=ς (b,c)->w'.heap[b]?=w.heap[b]?)(hF:∀b c,E.r o=ς (b,c)->¬E.F b->¬E'.F b)(h:cB E w o ob):cB E' w' o ob:=by
 cases ob with
 |var ty cs=>
  obtain⟨b,c,arr,hr,hh,hc,hf⟩:=h
  exact⟨b,c,arr,x.r _ _ hr,(hb b c hr).trans hh,pK x hc,hF b c hr hf⟩
 |row ty sz els g m=>
  obtain⟨b,c,arr,hr,hh,h1,h2,h3,h4,h5,h6,h7⟩:=h
  exact⟨b,c,arr,x.r _ _ hr,(hb b c hr).trans hh,h1,h2,h3,h4,cf (x.heap g) (x.H g) (hb b c hr) _ _ h5,λhm=>hF b c hr (h6 hm),λhm=>⟨x.H η b (h7 hm).1,λhg=>x.H ζ b ((h7 hm).2 hg)⟩⟩
 |rown ty sz els g=>
  rcases h with⟨h0,h1⟩|⟨h0,b,c,arr,hr,hh,h1,h2,h3,h4,h5,h6⟩
  .exact .inl ⟨by rw[x.n];exact h0,h1⟩
  exact .inr ⟨by rw[x.n];exact h0,b,c,arr,x.r _ _ hr,(hb b c hr).trans hh,h1,h2,h3,h4,cf (x.heap g) (x.H g) (hb b c hr) _ _ h5,hF b c hr h6⟩
 |abs l y=>
  rcases h with⟨h0,h1⟩|⟨h0,b,c,hr,h1,h2⟩
  .exact .inl ⟨by rw[x.n];exact h0,h1⟩
  exact .inr ⟨by rw[x.n];exact h0,b,c,x.r _ _ hr,y.st b c _ _ w w' h1 (λk hk=>(x.T l k hk).1) (hb b c hr) (λk hk=>(x.T l k hk).2),hF b c hr h2⟩
theorem zP{cx:Cx}(ok:da cx E w)(x:Ext E w E' w'){o:Nat}{ob:Ob}(h:cB E w o ob):cB E' w' o ob:=
 f8 (.of_ext ok x) (λb c hr=>x.heap b (ok.rb _ _ _ hr).1) (λb c hr hf hf'=>by
  have:=(ok.rb _ _ _ hr).1
  rcases x.F' b hf' with h|h
  .exact hf h
  omega) h
def gt:Lab->Nat->T
 |[],_=>.any
 |(k,v)::r,n=>bif f4 k n then v else gt r n
def go:Laa->Nat->Option Ob
 |[],_=>ξ
 |(k,v)::r,n=>bif f4 k n then ς v else go r n
theorem jo(h:k≠n):f4 k n=false:=by
 rcases hb:f4 k n with _|_
 .rfl
 simp_all
theorem cW(k:Nat)(v:T)(r:Lab):gt ((k,v)::r) k=v:=by simp[gt]
theorem cy(v:T)(r:Lab)(h:k≠n):gt ((k,v)::r) n=gt r n:=by simp[gt,jo h]
theorem b9(k:Nat)(v:Ob)(r:Laa):go ((k,v)::r) k=ς v:=by simp[go]
theorem bG(v:Ob)(r:Laa)(h:k≠n):go ((k,v)::r) n=go r n:=by simp[go,jo h]
structure St where
 sl:Lab
 ob:Laa
 nx:Nat
variable{st:Go.AM.St}
structure Rel(N:Nat)(cx:Cx)(E:Env)(st:St)(a:Act)(w:World):Prop where
 ok:da cx E w
 dom:∀o x,E.r o=ς x->o<st.nx
 obs:∀o ob,go st.ob o=ς ob->cB E w o ob
 sl:∀k,cvT E w (gt st.sl k) (a.tmps.getD k undef)
 dfr:a.defers=[]
 size:a.tmps.size=N
 td:∀l b,E.T l b->l<st.nx
def xr:Value->C
 | .int k n=>.d η (.i k n)
 | .bool b=>.d η (.b b)
 | .string s=>.d η (.str s)
 | .slice a n c=>bif a.isNone&&f4 n 0&&f4 c 0 then .nil else .any
 |_=>.any
theorem vZ(E:Env)(w:World)(u:Value):cvC E w (xr u) u:=by
 cases u with
 |slice a n c=>
  simp only[xr]
  cases h:a.isNone&&f4 n 0&&f4 c 0 with
  |false=>exact θ
  |true=>
   simp only[hV,Option.isNone_iff_eq_none] at h
   obtain⟨⟨rfl,h1⟩,h2⟩:=h
   have e1:=Yf h1
   have e2:=Yf h2
   subst e1;subst e2
   exact rfl
 |_=>simp only[xr,cvC,rdD]
def opT(sl:Lab):Operand->T
 | .tmp k=>gt sl k
 | .const (.int k n)=>.v (.c (.d η (.i k n)))
 | .const (.bool b)=>.v (.c (.d η (.b b)))
 | .const (.string s)=>.v (.c (.d η (.str s)))
 | .const (.agg cs)=>.v (.agg (cs.toList.map xr))
 | .const v=>.v (.c (xr v))
 | .func f=>.v (.c (.fn f))
 | .global _=>.any
theorem rZ(E:Env)(w:World):∀us:Lae,CV E w (us.map xr) us
 |[]=>trivial
 |u::us=>⟨vZ E w u,rZ E w us⟩
theorem Rel.op{cx:Cx}(h:Rel N cx E st a w)(x:Operand):cvT E w (opT st.sl x) (a.eval x):=by
 cases x with
 |tmp k=>exact h.sl k
 |const v=>
  cases v<;>simp only[opT,Act.eval,cvT,cvV]<;>first|exact vZ E w _|exact⟨_,rfl,rZ E w _⟩|(simp only[cvC,rdD])
 |func f=>rfl
 |global g=>simp[opT,cvT]
def AWN(P:Program)(o:Oper)(needs:List (Operand×T))(nob:Laa)(out:T)(nw:Laa):Prop:=
 ∀(cx:Cx) (E:Env) (a:Act) (w:World),da cx E w->(∀x t,(x,t)∈needs->cvT E w t (a.eval x))->(∀l ob,(l,ob)∈nob->cB E w l ob)->
  (∀l ob,(l,ob)∈nw->E.r l=ξ/\rsv l=η)->
  o.wp P a w (λa' w'=>∃v E',a'=a.put o.dst v/\da cx E' w'/\Ext E w E' w'/\cvT E' w' out v/\(∀l ob,(l,ob)∈nw->cB E' w' l ob)/\
   (∀l x,E'.r l=ς x->E.r l=ς x\/∃ob,(l,ob)∈nw)) (λ_ _ _=>False)
theorem cd{o:Oper}{needs:List (Operand×T)}(h:∀(E:Env) (a:Act) (w:World),(∀x t,(x,t)∈needs->cvT E w t (a.eval x))->(∀l ob,(l,ob)∈nob->cB E w l ob)->
 ∃v,(execOp a.eval o).run P w= .ok (.value v) w/\cvT E w out v):AWN P o needs nob out []:=by
 intro cx E a w ok hn hb _
 obtain⟨v,hr,hv⟩:=h E a w hn hb
 unfold Oper.wp
 rw[hr]
 exact⟨v,E,rfl,ok,Ext.refl E w,hv,(λ_ _ h=>by simp at h),λ_ _ h=>.inl h⟩
def AWO(P:Program)(N:Nat)(o:Oper)(st st':St):Prop:=
 ∀(cx:Cx) (E:Env) (a:Act) (w:World),Rel N cx E st a w->o.wp P a w (λa' w'=>∃E',Rel N cx E' st' a' w') (λ_ _ _=>False)
def Lk(sl:Lab):List (Operand×T)->Prop
 |[]=>True
 |(x,t)::r=>opT sl x=t/\Lk sl r
def Lo(ob:Laa):Laa->Prop
 |[]=>True
 |(l,x)::r=>go ob l=ς x/\Lo ob r
def Nw(nx:Nat):Laa->Nat->Prop
 |[],n=>n=nx
 |(l,_)::r,n=>(l=nx/\rsv l=η)/\Nw (nx+1) r n
theorem Lk.mem:∀{l:List (Operand×T)},Lk sl l->∀x t,(x,t)∈l->opT sl x=t
 |(y,s)::r,h,x,t,hm=>by
  rcases Yh.1 hm with e|e
  .cases e;exact h.1
  exact Lk.mem h.2 x t e
theorem Lo.mem{ob:Laa}:∀{l:Laa},Lo ob l->∀x t,(x,t)∈l->go ob x=ς t
 |(y,s)::r,h,x,t,hm=>by
  rcases Yh.1 hm with e|e
  .cases e;exact h.1
  exact Lo.mem h.2 x t e
theorem Nw.mem:∀{l:Laa} {nx n:Nat},Nw nx l n->nx<=n/\∀x t,(x,t)∈l->nx<=x/\x<n/\rsv x=η
 |[],nx,n,h=>⟨by rw[Nw] at h;omega,λ_ _ h=>by simp at h⟩
 |(y,s)::r,nx,n,h=>by
  rw[Nw] at h
  obtain⟨h1,h2⟩:=Nw.mem h.2
  grind
theorem zE{ob:Laa}{o:Nat}{x:Ob}(h:go (nw++ob) o=ς x):(o,x)∈nw\/go ob o=ς x:=by
 induction nw with
 |nil=>exact .inr h
 |cons p r ih=>
  obtain⟨k,v⟩:=p
  by_cases hk:k=o
  .subst hk
   rw[Yv,b9] at h
   simp_all
  rw[Yv,bG v _ hk] at h
  grind
theorem gu{d:Tmp}{v:Value}(h:d<a.tmps.size)(k:Nat):(a.put (ς d) v).tmps.getD k undef=if d=k then v else a.tmps.getD k undef:=by
 by_cases hk:d=k
 .subst hk;simp[Act.put,h]
 simp[Act.put,hk,Array.getElem?_setIfInBounds_ne hk]
theorem Jj{o:Oper}{needs:List (Operand×T)}{d:Tmp}(h:AWN P o needs nob out nw)(hd:o.dst=ς d)(hN:d<N)(hn:Lk st.sl needs)(hb:Lo st.ob nob)(hw:Nw st.nx nw n):
 AWO P N o st ⟨(d,out)::st.sl,nw++st.ob,n⟩:=by
 intro cx E a w hR
 obtain⟨hx1,hx2⟩:=Nw.mem hw
 refine Oper.wp_mono ?_ (h cx E a w hR.ok (λx t hm=>by have:=hR.op x;rwa [Lk.mem hn x t hm] at this) (λl ob hm=>hR.obs l ob (Lo.mem hb l ob hm))
  (λl ob hm=>by
   refine⟨?_,(hx2 l ob hm).2.2⟩
   rcases hr:E.r l with _|x
   .rfl
   have:=hR.dom l x hr;grind))
 rintro a' w' ⟨v,E',rfl,ok',ext,hv,hob,hdom⟩
 refine⟨E',ok',λl x hl=>?_,λl ob hl=>?_,λk=>?_,?_,?_,?_⟩
 .rcases hdom l x hl with h|⟨ob,h⟩
  .have:=hR.dom l x h;grind
  grind
 .rcases zE hl with h|h
  .simp_all
  exact zP hR.ok ext (hR.obs l ob h)
 .rw[hd,gu (by rw[hR.size];exact hN)]
  by_cases hk:d=k
  .subst hk;rw[cW,if_pos rfl];exact hv
  rw[cy _ _ hk,if_neg hk];exact jM (.of_ext hR.ok ext) (hR.sl k)
 .rw[hd];exact hR.dfr
 .rw[hd];simpa [Act.put] using hR.size
 intro l b h
 rw[ext.T] at h
 have:=hR.td l b h
 grind
theorem qC{o:Oper}{K:Act->World->Prop}{Q Q':Exit->Act->World->Prop}(hQ:∀e a w,Q e a w->Q' e a w)(hh:o.wp P a w K Q):o.wp P a w K Q':=by
 unfold Oper.wp at*
 generalize (execOp a.eval o).run P w=r at*
 cases r with
 |ok n w'=>
  cases n<;>simp only[Oper.upon] at hh ⊢<;>
   first
    |exact hh
    |exact Calls.mono hh (λe w'' he=>by
     cases e<;>first|exact he|exact hQ _ _ _ he|(obtain⟨a0,w0,h0⟩:=he;exact⟨a0,w0,hQ _ _ _ h0⟩))
 |halt x w'=>cases x<;>simp only[Oper.upon] at hh ⊢<;>first|exact hh|exact hQ _ _ _ hh
def B4(N:Nat)(cx:Cx)(AQ:Exit->St->Prop):Exit->Act->World->Prop:=λe a w=>∃E st,Rel N cx E st a w/\AQ e st
def onN(K:St->Prop):Exit->St->Prop
 | .normal,s=>K s
 |_,_=>False
def rH(K:St->Prop)(AQ:Exit->St->Prop):Exit->St->Prop
 | .normal,s=>K s
 |e,s=>AQ e s
def AWR(P:Program)(N:Nat)(ops:Array Oper)(l:List Oper)(st:St)(K:St->Prop):Prop:=
 ∀(cx:Cx) (E:Env) (a:Act) (w:World),Rel N cx E st a w->wpList P ops (B4 N cx (onN K)) l a w
def AWC(P:Program)(N:Nat)(c:Code)(st:St)(AQ:Exit->St->Prop):Prop:=
 ∀(cx:Cx) (E:Env) (a:Act) (w:World),Rel N cx E st a w->c.wp P (B4 N cx AQ) a w
section
variable{P:Program}{N:Nat}{ops:Array Oper}{l:List Oper}{o:Oper}{st st':St}{K:St->Prop}{AQ:Exit->St->Prop}
theorem EX(h:K st):AWR P N ops [] st K:=λcx E a w hR=>wpList_nil ⟨E,st,hR,h⟩
theorem rI{Q:Exit->Act->World->Prop} :wpList P ops Q (o::l) a w=if Region.wanted o (yielded ops a.tmps) then o.wp P a w (wpList P ops Q l) Q\/(o.asks P a w/\LetsOut Q) else wpList P ops Q l (a.put o.dst undef) w:=rfl
theorem eV(hg:o.guard=ξ)(h:AWO P N o st st')(h':AWR P N ops l st' K):AWR P N ops (o::l) st K:=by
 intro cx E a w hR
 rw[rI,if_pos (by simp[Region.wanted,hg])]
 exact .inl (qC (λ_ _ _ h=>h.elim) (Oper.wp_mono (λa' w' ⟨E',hR'⟩=>h' cx E' a' w' hR') (h cx E a w hR)))
theorem C5{cx:Cx}(hR:Rel N cx E st a w)(hj:(ops[j]?).bind (·.dst)=ς dj)(hdj:dj<N)(hb:gt st.sl dj=tB b):
 yielded ops a.tmps j=ς b:=by
 have:=hR.sl dj
 rw[hb] at this
 simp only[cvT,cvV,cvC,rdD] at this
 have hs:dj<a.tmps.size:=by rw[hR.size];exact hdj
 have h2:a.tmps[dj]?=ς (.bool b):=by
  rw[YC hs]
  simpa [YV,hs] using this
 unfold yielded
 simp_all
theorem fX(hg:o.guard=ς (j,b))(hj:(ops[j]?).bind (·.dst)=ς dj)(hdj:dj<N)(hb:gt st.sl dj=tB b)(h:AWO P N o st st')(h':AWR P N ops l st' K):
 AWR P N ops (o::l) st K:=by
 intro cx E a w hR
 rw[rI,if_pos (by simp[Region.wanted,hg,C5 hR hj hdj hb])]
 exact .inl (qC (λ_ _ _ h=>h.elim) (Oper.wp_mono (λa' w' ⟨E',hR'⟩=>h' cx E' a' w' hR') (h cx E a w hR)))
theorem Rel.putAny{cx:Cx}(hR:Rel N cx E st a w){d:Tmp}(hd:d<N)(v:Value):Rel N cx E ⟨(d,.any)::st.sl,st.ob,st.nx⟩ (a.put (ς d) v) w:=by
 refine⟨hR.ok,hR.dom,hR.obs,λk=>?_,hR.dfr,by simpa [Act.put] using hR.size,hR.td⟩
 rw[gu (by rw[hR.size];exact hd)]
 by_cases hk:d=k
 .subst hk;rw[cW];trivial
 rw[cy _ _ hk,if_neg hk];exact hR.sl k
def noG(b:Bool):T->Bool
 | .v (.c (.d _ (.b c)))=>c==!b
 | .tup []=>ζ
 |_=>η
theorem C6{N:Nat}{ops:Array Oper}{tmps:Array Value}{t:T}(hv:cvT E w t (tmps.getD dj undef))(hs:dj<tmps.size)(hj:(ops[j]?).bind (·.dst)=ς dj)(hb:noG b t=ζ):
 yielded ops tmps j≠ς b:=by
 have h2:tmps[dj]?=ς (tmps.getD dj undef):=by rw[YC hs];simp[YV,hs]
 unfold yielded
 rw[hj]
 simp only[Option.bind_some,h2]
 unfold noG at hb
 split at hb
 .rename_i g c
  simp only[cvT,cvV,cvC,rdD] at hv
  simp_all
 .obtain⟨arr,h1,h3⟩:=hv
  rw[h1];simp
 cases hb
theorem Rel.putUnd{cx:Cx}(hR:Rel N cx E st a w){d:Tmp}(hd:d<N):Rel N cx E ⟨(d,.tup [])::st.sl,st.ob,st.nx⟩ (a.put (ς d) undef) w:=by
 refine⟨hR.ok,hR.dom,hR.obs,λk=>?_,hR.dfr,by simpa [Act.put] using hR.size,hR.td⟩
 rw[gu (by rw[hR.size];exact hd)]
 by_cases hk:d=k
 .subst hk;rw[cW,if_pos rfl];exact⟨#[],rfl,θ⟩
 rw[cy _ _ hk,if_neg hk];exact hR.sl k
theorem Bl{d:Tmp}(hg:o.guard=ς (j,b))(hj:(ops[j]?).bind (·.dst)=ς dj)(hdj:dj<N)(hb:noG b (gt st.sl dj)=ζ)(hd:o.dst=ς d)(hN:d<N)(h':AWR P N ops l ⟨(d,.tup [])::st.sl,st.ob,st.nx⟩ K):AWR P N ops (o::l) st K:=by
 intro cx E a w hR
 rw[rI,if_neg (by simp[Region.wanted,hg,C6 (N:=N) (hR.sl dj) (by rw[hR.size];exact hdj) hj hb]),hd]
 exact h' cx E _ w (hR.putUnd hN)
theorem Rel.decide{cx:Cx}(hR:Rel N cx E st a w){d:Tmp}{c:Bool}(hb:gt st.sl d=tB b)(h:b=c):Rel N cx E ⟨(d,tB c)::st.sl,st.ob,st.nx⟩ a w:=by
 refine⟨hR.ok,hR.dom,hR.obs,λk=>?_,hR.dfr,hR.size,hR.td⟩
 by_cases hk:d=k
 .subst hk;rw[cW,<-h,<-hb];exact hR.sl d
 rw[cy _ _ hk];exact hR.sl k
theorem M4{d:Tmp}(hb:gt st.sl d=tB b)(h1:b=ζ->AWR P N ops l ⟨(d,tB ζ)::st.sl,st.ob,st.nx⟩ K)(h0:b=η->AWR P N ops l ⟨(d,tB η)::st.sl,st.ob,st.nx⟩ K):
 AWR P N ops l st K:=by
 intro cx E a w hR
 cases hc:b with
 |true=>exact h1 hc cx E a w (hR.decide hb hc)
 |false=>exact h0 hc cx E a w (hR.decide hb hc)
theorem Pi{K':St->Prop}(h:∀s,K s->K' s)(hh:AWR P N ops l st K):AWR P N ops l st K':=by
 intro cx E a w hR
 have:=hh cx E a w hR
 revert this
 have key:∀(l:List Oper) (a:Act) (w:World),wpList P ops (B4 N cx (onN K)) l a w->wpList P ops (B4 N cx (onN K')) l a w:=by
  intro l
  have hQ:∀e a w,B4 N cx (onN K) e a w->B4 N cx (onN K') e a w:=by
   rintro e a w ⟨E,s,hR,hq⟩
   refine⟨E,s,hR,?_⟩
   cases e<;>simp only[onN] at hq ⊢
   exact h s hq
  induction l with
  |nil=>exact λa w h=>hQ _ _ _ h
  |cons o l ih=>
   intro a w hw
   rw[rI] at hw ⊢
   split
   .rename_i hwt
    rw[if_pos hwt] at hw
    rcases hw with hw|⟨h1,a0,w0,h2⟩
    .exact .inl (qC hQ (Oper.wp_mono ih hw))
    exact .inr ⟨h1,a0,w0,hQ _ _ _ h2⟩
   simp_all
 simp_all
theorem xZ{c:Code}{AQ':Exit->St->Prop}(h:AWC P N c st AQ)(hq:∀e s,AQ e s->AQ' e s):AWC P N c st AQ':=
 λcx E a w hR=>wp_mono (h cx E a w hR) λe a w ⟨E,s,hR,q⟩=>⟨E,s,hR,hq e s q⟩
theorem Bk(h:AQ .normal st):AWC P N .skip st AQ:=λcx E a w hR=>wp_skip ⟨E,st,hR,h⟩
theorem EW(h:AQ .ret st):AWC P N .ret st AQ:=λcx E a w hR=>wp_ret ⟨E,st,hR,h⟩
theorem Bj(h:AQ (.exit id) st):AWC P N (.exit id) st AQ:=λcx E a w hR=>wp_exit ⟨E,st,hR,h⟩
theorem AB{x:Code}(h:AWC P N x st (rH (λs=>AWC P N y s AQ) AQ)):AWC P N (x.seq y) st AQ:=λcx E a w hR=>
 wp_seq (wp_mono (h cx E a w hR) λe a w ⟨E,s,hR,q⟩=>by
  cases e<;>first|exact q cx E a w hR|exact⟨E,s,hR,q⟩)
theorem tl{l:List Oper}(h:AWR P N l.toArray l st (λs=>AQ .normal s)):AWC P N (.region id l.toArray η) st AQ:=λcx E a w hR=>
 wp_mono (wp_region_lit (h cx E a w hR)) λe a w ⟨E,s,hR,q⟩=>⟨E,s,hR,by cases e<;>first|exact q|exact q.elim⟩
theorem pR{l:List Oper}(h:AWR P N l.toArray l st (λs=>AWC P N y s AQ)):AWC P N ((Code.region id l.toArray η).seq y) st AQ:=
 AB (tl h)
theorem zv{cx:Cx}{c:Operand}(hR:Rel N cx E st a w)(hb:opT st.sl c=tB b):a.eval c= .bool b:=by
 have:=hR.op c
 rw[hb] at this
 simpa [cvT,cvV,cvC,rdD] using this
theorem rN{c:Operand}{x:Code}(hb:opT st.sl c=tB ζ)(h:AWC P N x st AQ):AWC P N (.cond c x y) st AQ:=λcx E a w hR=>wp_cond_true (zv hR hb) (h cx E a w hR)
theorem pQ{c:Operand}{x:Code}(hb:opT st.sl c=tB η)(h:AWC P N y st AQ):AWC P N (.cond c x y) st AQ:=λcx E a w hR=>wp_cond_false (zv hR hb) (h cx E a w hR)
theorem fm{c:Operand}{x:Code}(hb:opT st.sl c=tB b)(h1:b=ζ->AWC P N x st AQ)(h0:b=η->AWC P N y st AQ):AWC P N (.cond c x y) st AQ:=λcx E a w hR=>
 wp_cond_split (zv hR hb) (λh=>h1 h cx E a w hR) (λh=>h0 h cx E a w hR)
def iY(id:Nat)(AQ:Exit->St->Prop):Exit->St->Prop
 | .exit n,s=>bif f4 n id then AQ .normal s else AQ (.exit n) s
 |e,s=>AQ e s
theorem zo{c:Code}(h:AWC P N c st (iY id AQ)):AWC P N (.block id c) st AQ:=λcx E a w hR=>
 wp_block (wp_mono (h cx E a w hR) λe a w ⟨E,s,hR,q⟩=>by
  cases e with
  |exit n=>
   simp only[Exit.inBlock]
   by_cases hn:n=id
   .subst hn;rw[if_pos rfl];exact⟨E,s,hR,by simpa [iY] using q⟩
   rw[if_neg hn];exact⟨E,s,hR,by simpa [iY,jo hn] using q⟩
  |_=>exact⟨E,s,hR,q⟩)
def cM(N:Nat)(st st':St):Prop:=∀(cx:Cx) (E:Env) (a:Act) (w:World),Rel N cx E st a w->∃E',Rel N cx E' st' a w
theorem fo{c:Code}(hw:cM N st st')(h:AWC P N c st' AQ):AWC P N c st AQ:=λcx E a w hR=>let ⟨E',hR'⟩:=hw cx E a w hR;h cx E' a w hR'
theorem eC(hw:cM N st st')(h:AWR P N ops l st' K):AWR P N ops l st K:=λcx E a w hR=>let ⟨E',hR'⟩:=hw cx E a w hR;h cx E' a w hR'
def C.lt(n:Nat):C->Bool
 | .w o _| .s o _ _ _| .p o _| .e o _ _ _| .r o _| .wn o _=>nlt o n
 |_=>ζ
def V.lt(n:Nat):V->Bool
 | .c x=>x.lt n
 | .agg cs=>cs.all (C.lt n)
def T.lt(n:Nat):T->Bool
 | .v x=>x.lt n
 | .tup ts=>ts.all (V.lt n)
 | .any=>ζ
def Ob.lt(n:Nat):Ob->Bool
 | .var _ cs=>cs.all (C.lt n)
 | .row .. | .rown .. =>ζ
 | .abs l _=>nlt l n
theorem cO{a b:Nat}(h:nlt a b=ζ):a<b:=YJ h
def LeS(sl:Lab)(n:Nat):Lab->Prop
 |[]=>True
 |(k,t)::r=>gt sl k=t/\t.lt n=ζ/\LeS sl n r
def LeO(ob:Laa)(n:Nat):Laa->Prop
 |[]=>True
 |(l,x)::r=>go ob l=ς x/\(nlt l n=ζ/\x.lt n=ζ)/\LeO ob n r
theorem LeS.gt(h:LeS sl n sl')(k:Nat):(AM.gt sl' k= .any\/AM.gt sl' k=AM.gt sl k)/\(AM.gt sl' k).lt n=true:=by
 induction sl' with
 |nil=>exact⟨.inl rfl,rfl⟩
 |cons p r ih=>
  obtain⟨j,t⟩:=p
  by_cases hj:j=k
  .subst hj;rw[cW];exact⟨.inr h.1.symm,h.2.1⟩
  rw[cy _ _ hj];exact ih h.2.2
theorem LeO.go{ob:Laa}(h:LeO ob n ob'){l:Nat}{x:Ob}(hl:AM.go ob' l=ς x):AM.go ob l=ς x/\l<n/\x.lt n=true:=by
 induction ob' with
 |nil=>cases hl
 |cons p r ih=>
  obtain⟨j,t⟩:=p
  by_cases hj:j=l
  .subst hj;rw[b9] at hl;cases hl;exact⟨h.1,cO h.2.1.1,h.2.1.2⟩
  rw[bG _ _ hj] at hl;exact ih h.2.2 hl
def Env.below(E:Env)(n:Nat):Env:={E with r:=λo=>if o<n then E.r o else ξ,T:=λl b=>l<n/\E.T l b}
theorem Pt:∀{c:C} {u:Value},c.lt n=ζ->cvC E w c u->cvC (E.below n) w c u
 | .d g d,u,_,h=>h
 | .w o m,u,hl,⟨b,c,h,hu⟩=>⟨b,c,by rw[Env.below];simp only;rw[if_pos (cO hl)];exact h,hu⟩
 | .s o sz off len,u,hl,⟨A,c,b,k,h,hu⟩=>⟨A,c,b,k,by rw[Env.below];simp only;rw[if_pos (cO hl)];exact h,hu⟩
 | .p o k,u,hl,⟨b,c,h,hu⟩=>⟨b,c,by rw[Env.below];simp only;rw[if_pos (cO hl)];exact h,hu⟩
 | .e o sz i j,u,hl,⟨b,c,h,hu⟩=>⟨b,c,by rw[Env.below];simp only;rw[if_pos (cO hl)];exact h,hu⟩
 | .q g y j,u,_,h=>h
 | .fn f,u,_,h=>h
 | .nil,u,_,h=>h
 | .any,u,_,_=>trivial
 | .r l d,u,hl,h=>cm (F':=(E.below n).T l) (λ_ _=>rfl) (λb hb=>⟨cO hl,hb⟩) d u h
 | .z d,u,_,h=>h
 | .zq y j,u,_,h=>h
 | .wn o m,u,_,.inl h=>.inl h
 | .wn o m,u,hl,.inr ⟨h0,b,c,h,hu⟩=>.inr ⟨h0,b,c,by rw[Env.below];simp only;rw[if_pos (cO hl)];exact h,hu⟩
theorem OW{E:Env}{w:World}{n:Nat}:∀{cs:List C} {us:Lae},cs.all (C.lt n)=ζ->CV E w cs us->CV (E.below n) w cs us
 |[],[],_,_=>trivial
 |c::cs,u::us,hl,h=>by
  simp only[Yy,hV] at hl
  exact⟨Pt hl.1 h.1,OW hl.2 h.2⟩
 |[],_::_,_,h=>h.elim
 |_::_,[],_,h=>h.elim
theorem Pw{v:V}(hl:v.lt n=ζ)(h:cvV E w v u):cvV (E.below n) w v u:=by
 cases v with
 |c c=>exact Pt hl h
 |agg cs=>obtain⟨arr,hu,h⟩:=h;exact⟨arr,hu,OW hl h⟩
theorem Vu{E:Env}{w:World}{n:Nat}:∀{cs:List V} {us:Lae},cs.all (V.lt n)=ζ->VV E w cs us->VV (E.below n) w cs us
 |[],[],_,_=>trivial
 |c::cs,u::us,hl,h=>by
  simp only[Yy,hV] at hl
  exact⟨Pw hl.1 h.1,Vu hl.2 h.2⟩
 |[],_::_,_,h=>h.elim
 |_::_,[],_,h=>h.elim
theorem We{t:T}(hl:t.lt n=ζ)(h:cvT E w t u):cvT (E.below n) w t u:=by
 cases t with
 |v v=>exact Pw hl h
 |tup ts=>obtain⟨arr,hu,h⟩:=h;exact⟨arr,hu,Vu hl h⟩
 |any=>trivial
theorem Rv{o:Nat}{ob:Ob}(ho:o<n)(hl:ob.lt n=ζ)(h:cB E w o ob):cB (E.below n) w o ob:=by
 cases ob with
 |var ty cs=>
  obtain⟨b,c,arr,hr,hh,hc,hF⟩:=h
  exact⟨b,c,arr,by simp only[Env.below];simp_all,hh,OW hl hc,hF⟩
 |row ty sz els g m=>
  obtain⟨b,c,arr,hr,h⟩:=h
  exact⟨b,c,arr,by simp only[Env.below];simp_all,h⟩
 |rown ty sz els g=>
  rcases h with h|⟨h0,b,c,arr,hr,h⟩
  .exact .inl h
  exact .inr ⟨h0,b,c,arr,by simp only[Env.below];simp_all,h⟩
 |abs l y=>
  rcases h with h|⟨h0,b,c,hr,h1,h2⟩
  .exact .inl h
  exact .inr ⟨h0,b,c,by simp only[Env.below];simp_all,y.st b c _ _ w w h1 (λk hk=>⟨cO hl,hk⟩) rfl (λ_ _=>rfl),h2⟩
theorem da.below{cx:Cx}(ok:da cx E w)(n:Nat):da cx (E.below n) w:=by
 have hr:∀o x,(E.below n).r o=ς x->E.r o=ς x:=λo x h=>by
  simp only[Env.below] at h;simp_all
 refine⟨ok.fb,ok.gf,ok.gn,λo b c h=>ok.rb o b c (hr o _ h),λo o' b c c' h h'=>ok.inj o o' b c c' (hr _ _ h) (hr _ _ h'),ok.os,ok.tape,ok.output,ok.size,ok.block,λo x hv h=>ok.pin o x hv (hr o _ h),ok.ff,ok.gc,⟨λl b h=>?_,λl l' b h h'=>ok.sf.tt l l' b h.2 h'.2,λb h=>?_,ok.sf.zs,ok.sf.ze⟩⟩
 .obtain⟨h1,h2,h3,h4⟩:=ok.sf.tb l b h.2
  exact⟨h1,h2,λo c ho=>h3 o c (hr o _ ho),h4⟩
 obtain⟨h1,h2,h3,h4⟩:=ok.sf.zc b h
 exact⟨h1,h2,λo c ho=>h3 o c (hr o _ ho),h4⟩
theorem cq(h1:LeS st.sl st'.nx st'.sl)(h2:LeO st.ob st'.nx st'.ob):cM N st st':=by
 intro cx E a w hR
 refine⟨E.below st'.nx,hR.ok.below _,λo x h=>?_,λo ob h=>?_,λk=>?_,hR.dfr,hR.size,λl b h=>h.1⟩
 .simp only[Env.below] at h;simp_all
 .obtain⟨h1,h2,h3⟩:=h2.go h
  exact Rv h2 h3 (hR.obs o ob h1)
 obtain⟨h1,h2⟩:=h1.gt k
 rcases h1 with h1|h1
 .rw[h1];trivial
 rw[h1] at h2 ⊢;exact We h2 (hR.sl k)
theorem Pg{c:Code}(I:σ->Prop)(S:σ->St)(μ:σ->Nat)(x0:σ)(i0:I x0)(h0:cM N st (S x0))(round:∀x,I x->AWC P N c (S x) (rH (λs=>∃x',I x'/\cM N s (S x')/\μ x'<μ x) AQ)):AWC P N (.loop c) st AQ:=by
 intro cx E a w hR b k cs
 have key:∀n x,μ x=n->I x->∀E a w,Rel N cx E (S x) a w->
  ∃e a' w',B4 N cx AQ e a' w'/\Arrives P (lone (b.at a (.code c:: .inLoop c::k)) cs w) b k cs e a' w':=by
  intro n
  induction n using YW with
  |_ n ih=>
   intro x hn hI E a w hR
   obtain⟨e,a₁,w₁,⟨E₁,s₁,hR₁,hq⟩,harr⟩:=round x hI cx E a w hR b (.inLoop c::k) cs
   cases e with
   |normal=>
    obtain⟨x',hI',hW,hlt⟩:=hq
    obtain⟨E',hR'⟩:=hW cx E₁ a₁ w₁ hR₁
    obtain⟨e₂,a₂,w₂,hq₂,harr₂⟩:=ih (μ x') (hn▸hlt) x' rfl hI' E' a₁ w₁ hR'
    exact⟨e₂,a₂,w₂,hq₂,.of_steps (Steps.trans harr (.one step_inLoop)) harr₂⟩
   |exit id=>exact⟨_,a₁,w₁,⟨E₁,s₁,hR₁,hq⟩,.pass (x:=.inLoop c) rfl (λ_ _=>.inl (by simp)) harr⟩
   |goto l=>exact⟨_,a₁,w₁,⟨E₁,s₁,hR₁,hq⟩,.pass (x:=.inLoop c) rfl (λ_ _=>.inl (by simp)) harr⟩
   |ret=>exact⟨_,a₁,w₁,⟨E₁,s₁,hR₁,hq⟩,.pass (x:=.inLoop c) rfl (λ_ _=>.inl (by simp)) harr⟩
   |panic ch=>exact⟨_,a₁,w₁,⟨E₁,s₁,hR₁,hq⟩,.pass (x:=.inLoop c) rfl (λ_ _=>.inl (by simp)) harr⟩
   |outgrown=>exact⟨_,a₁,w₁,⟨E₁,s₁,hR₁,hq⟩,.pass (x:=.inLoop c) rfl (λ_ _=>.inl (by simp)) harr⟩
 obtain⟨E',hR'⟩:=h0 cx E a w hR
 obtain⟨e,a',w',hq,harr⟩:=key _ x0 rfl i0 E' a w hR'
 exact⟨e,a',w',hq,.of_steps (.one step_loop) harr⟩
end
class TyU(P:Program)(t:TypeId)(d:outParam TypeDesc):Prop where
 h:P.underlying t=ς d
class TyI(P:Program)(t:TypeId)(z:outParam Value)(n:outParam Nat)(b:outParam Nat):Prop where
 h:(P.info? t).map (λi=>(i.zero,i.size,i.bytes))=ς (ς z,n,b)
class ic(P:Program)(t:TypeId):Prop where
 h:∀w,(isAgg t).run P w= .ok η w
 n:∃i,P.info? t=ς i/\i.size=1
class fU(P:Program)(t:TypeId)(n:outParam Nat):Prop where
 h:∀w,(isAgg t).run P w= .ok ζ w
 n:∃i,P.info? t=ς i/\i.size=n
class dB(P:Program)(t:TypeId)(e:outParam TypeId)(sz:outParam Nat)(by_:outParam Nat):Prop where
 u:P.underlying t=ς (.slice e)
 i:∃i z,P.info? e=ς i/\i.size=sz/\i.bytes=by_/\i.zero=ς z/\z.cells.size=sz
 p:0<sz
class TyF(P:Program)(t:TypeId)(f:Nat)(off:outParam Nat)(ft:outParam TypeId):Prop where
 h:∃fs fd,P.underlying t=ς (.struct fs)/\fs[f]?=ς fd/\fd.offset=off/\fd.type=ft/\∃i,P.info? ft=ς i/\i.size≠0
class TyZ(P:Program)(t:TypeId)(zs:outParam (List C)):Prop where
 h:∃i z,P.info? t=ς i/\i.zero=ς z/\z.cells.toList.map xr=zs
theorem eA{i:TypeInfo}(h:P.info? t=ς i)(w:World):(sizeOf t).run P w= .ok i.size w:=by
 simp[sizeOf,typeInfo,h]
section
variable{P:Program}{d:Option Tmp}{ty:TypeId}{ps:String}{af:Array Edge}{gd:Option (Nat×Bool)}{x y z:Operand}
theorem JN{t:T}:AWN P ⟨d,.move x,ty,ps,af,gd⟩ [(x,t)] [] t []:=
 cd λE a w hn _=>⟨a.eval x,by simp[execOp],hn x t (.head _)⟩
theorem B8{t:T}:AWN P ⟨d,.assign x,ty,ps,af,gd⟩ [(x,t)] [] t []:=
 cd λE a w hn _=>⟨a.eval x,by simp[execOp],hn x t (.head _)⟩
theorem gz{k:IntKind}{n:Int}(h:cvT E w (.v (.c (.d g (.i k n)))) u):u= .int k n:=by simpa [cvT,cvV,cvC,rdD] using h
theorem tw(h:cvT E w (.v (.c (.d g (.b b)))) u):u= .bool b:=by simpa [cvT,cvV,cvC,rdD] using h
theorem uN{s:ByteArray}(h:cvT E w (.v (.c (.d g (.str s)))) u):u= .string s:=by simpa [cvT,cvV,cvC,rdD] using h
theorem HY{t:T}:AWN P ⟨d,.pick x y z,ty,ps,af,gd⟩ [(x,.v (.c (.d g (.b ζ)))),(y,t)] [] t []:=
 cd λE a w hn _=>⟨a.eval y,by
  have h:=tw (hn x _ (.head _))
  simp[execOp,asBool,h],hn y t (.tail _ (.head _))⟩
theorem FN{t:T}:AWN P ⟨d,.pick x y z,ty,ps,af,gd⟩ [(x,.v (.c (.d g (.b η)))),(z,t)] [] t []:=
 cd λE a w hn _=>⟨a.eval z,by
  have h:=tw (hn x _ (.head _))
  simp[execOp,asBool,h],hn z t (.tail _ (.head _))⟩
@[irreducible] def ltB (a b:Int):Bool:=decide (a<b)
@[irreducible] def leB (a b:Int):Bool:=decide (a<=b)
@[irreducible] def eqB (a b:Int):Bool:=decide (a=b)
@[irreducible] def strB (a b:ByteArray):Bool:=a.toList==b.toList
@[simp] theorem ltB_t {a b:Int}:ltB a b=ζ↔a<b:=by simp[ltB]
@[simp] theorem ltB_f {a b:Int}:ltB a b=η↔b<=a:=by simp[ltB]
@[simp] theorem leB_t {a b:Int}:leB a b=ζ↔a<=b:=by simp[leB]
@[simp] theorem leB_f {a b:Int}:leB a b=η↔b<a:=by simp[leB]
@[simp] theorem eqB_t {a b:Int}:eqB a b=ζ↔a=b:=by simp[eqB]
@[simp] theorem eqB_f {a b:Int}:eqB a b=η↔a≠b:=by simp[eqB]
theorem KB{a b:ByteArray}(h:a.toList=b.toList):a=b:=by
 have:=congrArg List.toArray h
 simp only[ByteArray.toList_eq,YQ] at this
 exact ByteArray.ext this
@[simp] theorem strB_t {a b:ByteArray}:strB a b=ζ↔a=b:=by simp[strB];exact⟨KB,λh=>by rw[h]⟩
@[simp] theorem strB_f {a b:ByteArray}:strB a b=η↔a≠b:=by
 rw[<-Bool.not_eq_true,strB_t]
theorem WE(a b:Int):decide (a<b)=ltB a b:=by simp[ltB]
theorem WA(a b:Int):decide (a<=b)=leB a b:=by simp[leB]
theorem Wm(a b:Int):decide (a=b)=eqB a b:=by simp[eqB]
theorem KV(a b:Int):(a==b)=eqB a b:=by rw[<-Wm];rfl
def Qq(op:BinOp)(k:IntKind)(a b:Int):Option D:=
 match op with
 | .add=>ς (.i k (k.wrap (a+b)))
 | .sub=>ς (.i k (k.wrap (a-b)))
 | .mul=>ς (.i k (k.wrap (a*b)))
 | .eql=>ς (.b (eqB a b))
 | .neq=>ς (.b (!eqB a b))
 | .lss=>ς (.b (ltB a b))
 | .leq=>ς (.b (leB a b))
 | .gtr=>ς (.b (ltB b a))
 | .geq=>ς (.b (leB b a))
 |_=>ξ
theorem n_int{op:BinOp}{k:IntKind}{a b:Int}{r:D}(h:Qq op k a b=ς r):
 AWN P ⟨d,.binOp op t x y t',ty,ps,af,gd⟩ [(x,.v (.c (.d g (.i k a)))),(y,.v (.c (.d g' (.i k b))))] [] (.v (.c (.d η r))) []:=
 cd λE ac w hn _=>by
  have h1:=gz (hn x _ (.head _))
  have h2:=gz (hn y _ (.tail _ (.head _)))
  cases op<;>simp only[Qq,Option.some.injEq,reduceCtorEq] at h<;>subst h<;>
   exact⟨_,by simp[execOp,h1,h2,eqGuard,binOp,Op.intArith,Op.intCmp];rfl,by simp[cvT,cvV,cvC,rdD,bne,KV,WE,WA]⟩
theorem n_rem{k:IntKind}{a b:Int}(h:b≠0):
 AWN P ⟨d,.binOp .rem t x y t',ty,ps,af,gd⟩ [(x,.v (.c (.d g (.i k a)))),(y,.v (.c (.d g' (.i k b))))] [] (.v (.c (.d η (.i k (a.tmod b))))) []:=
 cd λE ac w hn _=>by
  have h1:=gz (hn x _ (.head _))
  have h2:=gz (hn y _ (.tail _ (.head _)))
  exact⟨_,by simp[execOp,h1,h2,eqGuard,binOp,Op.intDiv,h];rfl,by rfl⟩
theorem n_quo{k:IntKind}{a b:Int}(h:b≠0):
 AWN P ⟨d,.binOp .quo t x y t',ty,ps,af,gd⟩ [(x,.v (.c (.d g (.i k a)))),(y,.v (.c (.d g' (.i k b))))] [] (.v (.c (.d η (.i k (k.wrap (a.tdiv b)))))) []:=
 cd λE ac w hn _=>by
  have h1:=gz (hn x _ (.head _))
  have h2:=gz (hn y _ (.tail _ (.head _)))
  exact⟨_,by simp[execOp,h1,h2,eqGuard,binOp,Op.intDiv,h];rfl,by rfl⟩
theorem QR{a b:ByteArray}:
 AWN P ⟨d,.binOp .eql t x y t',ty,ps,af,gd⟩ [(x,.v (.c (.d g (.str a)))),(y,.v (.c (.d g' (.str b))))] [] (.v (.c (.d η (.b (strB a b))))) []:=
 cd λE ac w hn _=>by
  have h1:=uN (hn x _ (.head _))
  have h2:=uN (hn y _ (.tail _ (.head _)))
  exact⟨_,by simp[execOp,h1,h2,eqGuard,binOp,Op.stringOp];rfl,by simp[cvT,cvV,cvC,rdD,strB]⟩
theorem QS{a b:ByteArray}:
 AWN P ⟨d,.binOp .neq t x y t',ty,ps,af,gd⟩ [(x,.v (.c (.d g (.str a)))),(y,.v (.c (.d g' (.str b))))] [] (.v (.c (.d η (.b (!strB a b))))) []:=
 cd λE ac w hn _=>by
  have h1:=uN (hn x _ (.head _))
  have h2:=uN (hn y _ (.tail _ (.head _)))
  exact⟨_,by simp[execOp,h1,h2,eqGuard,binOp,Op.stringOp];rfl,by simp[cvT,cvV,cvC,rdD,strB]⟩
theorem NN{a b:ByteArray}(h:a.size+b.size<=9223372036854775807):
 AWN P ⟨d,.binOp .add t x y t',ty,ps,af,gd⟩ [(x,.v (.c (.d g (.str a)))),(y,.v (.c (.d g' (.str b))))] [] (.v (.c (.d η (.str (a++b))))) []:=
 cd λE ac w hn _=>by
  have h1:=uN (hn x _ (.head _))
  have h2:=uN (hn y _ (.tail _ (.head _)))
  have h3:¬((a.size+b.size:Nat):Int)>IntKind.i64.max:=by
   have:IntKind.i64.max=9223372036854775807:=rfl
   omega
  refine⟨.string (a++b),?_,by rfl⟩
  simp only[execOp,h1,h2,eqGuard,binOp,Op.stringOp]
  simp_all
theorem n_not:AWN P ⟨d,.unOp .not t x,ty,ps,af,gd⟩ [(x,.v (.c (.d g (.b b))))] [] (.v (.c (.d η (.b (!b))))) []:=
 cd λE ac w hn _=>by
  have h1:=tw (hn x _ (.head _))
  exact⟨_,by simp[execOp,h1,Op.unary];rfl,by rfl⟩
theorem n_neg{k:IntKind}{n:Int}:AWN P ⟨d,.unOp .neg t x,ty,ps,af,gd⟩ [(x,.v (.c (.d g (.i k n))))] [] (.v (.c (.d η (.i k (k.wrap (0-n)))))) []:=
 cd λE ac w hn _=>by
  have h1:=gz (hn x _ (.head _))
  exact⟨_,by simp[execOp,h1,Op.unary,Op.intArith];rfl,by simp[cvT,cvV,cvC,rdD]⟩
theorem WM{ds:TypeDesc}{k k':IntKind}{n:Int}[hs:TyU P t ds][hd:TyU P t' (.int k')]:
 AWN P ⟨d,.convert t t' x,ty,ps,af,gd⟩ [(x,.v (.c (.d g (.i k n))))] [] (.v (.c (.d η (.i k' (k'.wrap n))))) []:=
 cd λE ac w hn _=>by
  have h1:=gz (hn x _ (.head _))
  refine⟨.int k' (k'.wrap n),?_,by rfl⟩
  simp only[execOp,h1,convert]
  simp[underlying,hs.h,hd.h,Conv.intToInt]
theorem NB{ts:List V}{i:Nat}{v:V}(h:ts[i]?=ς v):AWN P ⟨d,.extract x i,ty,ps,af,gd⟩ [(x,.tup ts)] [] (.v v) []:=
 cd λE ac w hn _=>by
  obtain⟨arr,h1,h2⟩:=hn x _ (.head _)
  have key:∀(ts:List V) (us:Lae) (i:Nat),VV E w ts us->ts[i]?=ς v->∃u,us[i]?=ς u/\cvV E w v u:=by
   intro ts
   induction ts with
   |nil=>simp_all
   |cons t ts ih=>
    intro us i h9 hi
    cases us with
    |nil=>exact h9.elim
    |cons u us=>
     cases i with
     |zero=>simp at hi;subst hi;exact⟨u,rfl,h9.1⟩
     |succ i=>exact ih us i h9.2 (by simp_all)
  obtain⟨u,hu,hv⟩:=key ts arr.toList i h2 h
  exact⟨u,by simp[execOp,h1,Instr.extract,show arr[i]?=ς u by simp_all],hv⟩
theorem FM{o:Nat}:AWN P ⟨d,.nilCheck x,ty,ps,af,gd⟩ [(x,.v (.c (.p o k)))] [] (.v (.c (.p o k))) []:=
 cd λE ac w hn _=>by
  have h:=hn x _ (.head _)
  obtain⟨b,c,hr,hu⟩:=h
  exact⟨.pointer (ς ⟨b,k,ξ⟩),by simp[execOp,hu],b,c,hr,rfl⟩
theorem Ut{o by_:Nat}[ht:dB P t e sz by_]:AWN P ⟨d,.call ⟨.builtin .len,#[x],#[t]⟩,ty,ps,af,gd⟩ [(x,.v (.c (.w o n)))] [] (tI n) []:=
 cd λE ac w hn _=>by
  obtain⟨b,c,hr,hu⟩:=hn x _ (.head _)
  exact⟨_,by simp[execOp,resolve,invoke,builtin,hu,Builtin.len_,underlying,ht.u,goInt];rfl,by rfl⟩
theorem Us{o z by_:Nat}[ht:dB P t e sz by_]:AWN P ⟨d,.call ⟨.builtin .len,#[x],#[t]⟩,ty,ps,af,gd⟩ [(x,.v (.c (.s o z off n)))] [] (tI n) []:=
 cd λE ac w hn _=>by
  obtain⟨A,c,b,k,hr,hu,_⟩:=hn x _ (.head _)
  exact⟨_,by simp[execOp,resolve,invoke,builtin,hu,Builtin.len_,underlying,ht.u,goInt];rfl,by rfl⟩
theorem Ur{xs:Lad}{by_:Nat}[ht:dB P t e sz by_]:AWN P ⟨d,.call ⟨.builtin .len,#[x],#[t]⟩,ty,ps,af,gd⟩ [(x,.v (.c (.d g (.l xs))))] [] (tI xs.length) []:=
 cd λE ac w hn _=>by
  have h:=hn x _ (.head _)
  simp only[cvT,cvV,cvC,rdD] at h
  obtain⟨A,c,hu,_⟩:=h
  exact⟨_,by simp[execOp,resolve,invoke,builtin,hu,Builtin.len_,underlying,ht.u,goInt];rfl,by rfl⟩
theorem NI{by_:Nat}[ht:dB P t e sz by_]:AWN P ⟨d,.call ⟨.builtin .len,#[x],#[t]⟩,ty,ps,af,gd⟩ [(x,.v (.c .nil))] [] (tI 0) []:=
 cd λE ac w hn _=>by
  have hu:ac.eval x= .slice ξ 0 0:=hn x _ (.head _)
  exact⟨_,by simp[execOp,resolve,invoke,builtin,hu,Builtin.len_,underlying,ht.u,goInt];rfl,by rfl⟩
theorem NJ{s:ByteArray}[ht:TyU P t .string]:AWN P ⟨d,.call ⟨.builtin .len,#[x],#[t]⟩,ty,ps,af,gd⟩ [(x,.v (.c (.d g (.str s))))] [] (tI s.size) []:=
 cd λE ac w hn _=>by
  have hu:=uN (hn x _ (.head _))
  exact⟨_,by simp[execOp,resolve,invoke,builtin,hu,Builtin.len_,underlying,ht.h,goInt];rfl,by rfl⟩
theorem rK(b k j:Nat):(⟨b,k,ξ⟩:Addr).add j=⟨b,k+j,ξ⟩:=by
 unfold Addr.add;simp_all
theorem qL[h:TyF P t f off ft](b k:Nat)(w:World):(Instr.fieldAt t (.pointer (ς ⟨b,k,ξ⟩)) f).run P w= .ok (.pointer (ς ⟨b,k+off,ξ⟩)) w:=by
 obtain⟨fs,fd,h1,h2,rfl,rfl,i,h3,h4⟩:=h.h
 simp[Instr.fieldAt,underlying,h1,h2,Instr.sureAddr,fieldPlace,eA h3,h4,rK]
theorem ND{o:Nat}[h:TyF P t f off ft]:AWN P ⟨d,.fieldAddr t x f,ty,ps,af,gd⟩ [(x,.v (.c (.p o k)))] [] (.v (.c (.p o (k+off)))) []:=
 cd λE ac w hn _=>by
  obtain⟨b,c,hr,hu⟩:=hn x _ (.head _)
  exact⟨.pointer (ς ⟨b,k+off,ξ⟩),by simp[execOp,hu,qL],b,c,hr,rfl⟩
theorem NC{o i:Nat}[h:TyF P t f off ft]:AWN P ⟨d,.fieldAddr t x f,ty,ps,af,gd⟩ [(x,.v (.c (.e o sz i j)))] [] (.v (.c (.e o sz i (j+off)))) []:=
 cd λE ac w hn _=>by
  obtain⟨b,c,hr,hu⟩:=hn x _ (.head _)
  exact⟨_,by simp[execOp,hu,qL];rfl,b,c,hr,by grind⟩
theorem NE{e:List D}[h:TyF P t f off ft]:AWN P ⟨d,.fieldAddr t x f,ty,ps,af,gd⟩ [(x,.v (.c (.q g e j)))] [] (.v (.c (.q g e (j+off)))) []:=
 cd λE ac w hn _=>by
  obtain⟨b,k,hu,hr⟩:=hn x _ (.head _)
  exact⟨_,by simp[execOp,hu,qL];rfl,b,k,by grind,hr⟩
theorem uW{by_:Nat}[ht:dB P t e sz by_]{b len cap:Nat}(h0:0<=i)(h1:i<len)(w:World):
 (Instr.indexAt t (.slice (ς ⟨b,k,ξ⟩) len cap) (.int kd i)).run P w= .ok (.pointer (ς ⟨b,k+i.toNat*sz,ξ⟩)) w:=by
 obtain⟨ii,z,h2,h3,_⟩:=ht.i
 have:=eA h2 w
 simp[Instr.indexAt,asIntOf,underlying,ht.u,h0,h1,this,h3,rK]
theorem D1{by_:Nat}{o:Nat}[ht:dB P t e sz by_](h0:0<=i)(h1:i<n):
 AWN P ⟨d,.indexAddr t x y,ty,ps,af,gd⟩ [(x,.v (.c (.w o n))),(y,.v (.c (.d g (.i kd i))))] [] (.v (.c (.e o sz i.toNat 0))) []:=
 cd λE ac w hn _=>by
  obtain⟨b,c,hr,hu⟩:=hn x _ (.head _)
  have h2:=gz (hn y _ (.tail _ (.head _)))
  exact⟨_,by simp[execOp,hu,h2,uW h0 h1];rfl,b,c,hr,by simp⟩
theorem NH{by_:Nat}{o:Nat}[ht:dB P t e sz by_](h0:0<=i)(h1:i<n):
 AWN P ⟨d,.indexAddr t x y,ty,ps,af,gd⟩ [(x,.v (.c (.s o sz off n))),(y,.v (.c (.d g (.i kd i))))] [] (.v (.c (.e o sz (off+i.toNat) 0))) []:=
 cd λE ac w hn _=>by
  obtain⟨A,c,b,k,hr,hu,hc,_,hA⟩:=hn x _ (.head _)
  have h2:=gz (hn y _ (.tail _ (.head _)))
  obtain rfl:A=ς ⟨b,off*sz,ξ⟩:=hA.resolve_left oaa
  exact⟨_,by simp[execOp,hu,h2,uW h0 h1];rfl,b,k,hr,by grind⟩
theorem NG{by_:Nat}{xs:Lad}[ht:dB P t e sz by_](h0:0<=i)(he:xs[i.toNat]?=ς el)(hs:∀e∈xs,e.length=sz):
 AWN P ⟨d,.indexAddr t x y,ty,ps,af,gd⟩ [(x,.v (.c (.d g (.l xs)))),(y,.v (.c (.d g' (.i kd i))))] [] (.v (.c (.q g el 0))) []:=
 cd λE ac w hn _=>by
  have h:=hn x _ (.head _)
  simp only[cvT,cvV,cvC,rdD] at h
  obtain⟨A,c,hu,_,h⟩:=h
  have h2:=gz (hn y _ (.tail _ (.head _)))
  have hl:i.toNat<xs.length:=(Yc.1 he).1
  rcases h with h|⟨b,off,rfl,hb,h⟩
  .simp_all
  exact⟨_,by simp[execOp,hu,h2,uW (kd:=kd) h0 (by omega:i<(xs.length:Int))];rfl,b,off+i.toNat*sz,by simp,hb,oi h hs he⟩
def ldC(g:Bool):D->C
 | .l xs=>.d g (.l xs)
 |x=>.d η x
theorem B1{x:D}(h:rdD w (E.H g) x u):cvC E w (ldC g x) u:=by
 cases x<;>simp only[ldC,cvC]<;>first|exact h|(simp only[rdD] at h ⊢;exact h)
theorem lL[h:ic P t]{b:Nat}(hc:w.cell? ⟨b,k,ξ⟩=ς u):(Instr.loadAt t (.pointer (ς ⟨b,k,ξ⟩))).run P w= .ok u w:=by
 simp[Instr.loadAt,Instr.sureAddr,loadVar,h.h,load,Sem.run,hc]
theorem jX{b k:Nat}{w:World}:∀(us:Lae) (i:Nat) (acc:Array Value),(∀j u,us[j]?=ς u->w.cell? ⟨b,k+(i+j),ξ⟩=ς u)->
 (loadCellsFrom ⟨b,k,ξ⟩ i us.length acc).run P w= .ok (acc++us.toArray) w
 |[],i,acc,_=>by rfl
 |u::us,i,acc,h=>by
  have h0:=h 0 u rfl
  have ih:=jX us (i+1) (acc.push u) (λj v hj=>by have:=h (j+1) v (by simp_all);rwa [show i+1+j=i+(j+1) from by omega])
  simp only[Yg,loadCellsFrom,load,rK]
  simp[Sem.run,show w.cell? ⟨b,k+i,ξ⟩=ς u by omega,ih]
theorem p5[h:fU P t n]{b:Nat}{us:Lae}(hl:us.length=n)(hc:∀j u,us[j]?=ς u->w.cell? ⟨b,k+j,ξ⟩=ς u):
 (Instr.loadAt t (.pointer (ς ⟨b,k,ξ⟩))).run P w= .ok (.agg us.toArray) w:=by
 obtain⟨i,hi,hn⟩:=h.n
 have:=jX (P:=P) (b:=b) (k:=k) (w:=w) us 0 #[] (λj u hj=>by simp_all)
 simp[Instr.loadAt,Instr.sureAddr,loadVar,h.h,eA hi,hn,<-hl,loadCells,this]
theorem Dv{E:Env}{w:World}:∀{cs:List C} {us:Lae} {k:Nat} {c:C},CV E w cs us->cs[k]?=ς c->∃u,us[k]?=ς u/\cvC E w c u
 |c::cs,u::us,0,c',h,hk=>by simp at hk;subst hk;exact⟨u,rfl,h.1⟩
 |c::cs,u::us,k+1,c',h,hk=>by
  obtain⟨v,hv,h'⟩:=Dv (k:=k) h.2 (by simpa using hk)
  simp_all
 |[],_,_,_,_,hk=>by simp at hk
 |_::_,[],_,_,h,_=>h.elim
theorem iU{E:Env}{w:World}:∀{cs:List C} {us:Lae},CV E w cs us->us.length=cs.length
 |[],[],_=>rfl
 |c::cs,u::us,h=>by simp[iU h.2]
 |[],_::_,h=>h.elim
 |_::_,[],h=>h.elim
theorem EG{E:Env}{w:World}:∀{cs:List C} {us:Lae} (k:Nat),CV E w cs us->CV E w (cs.drop k) (us.drop k)
 |cs,us,0,h=>by simpa using h
 |[],[],k+1,h=>by simpa using h
 |c::cs,u::us,k+1,h=>by simpa using EG k h.2
 |[],_::_,_+1,h=>h.elim
 |_::_,[],_+1,h=>h.elim
theorem EJ{E:Env}{w:World}:∀{cs:List C} {us:Lae} (k:Nat),CV E w cs us->CV E w (cs.take k) (us.take k)
 |cs,us,0,h=>by simp[CV]
 |[],[],k+1,h=>by simp[CV]
 |c::cs,u::us,k+1,h=>by rw[YH,YH];exact⟨h.1,EJ k h.2⟩
 |[],_::_,_+1,h=>h.elim
 |_::_,[],_+1,h=>h.elim
theorem d7{b:Nat}{arr:Array Value}{ty':TypeId}(h:w.heap[b]?=ς (.cells arr ty' (0,0))):w.cell? ⟨b,k,ξ⟩=arr[k]?:=by
 simp[World.cell?,h]
theorem QO{o:Nat}{c:C}[ht:ic P t](hc:cs[k]?=ς c):
 AWN P ⟨d,.load t x,ty,ps,af,gd⟩ [(x,.v (.c (.p o k)))] [(o,.var vt cs)] (.v (.c c)) []:=
 cd λE ac w hn hb=>by
  obtain⟨b,c',hr,hu⟩:=hn x _ (.head _)
  obtain⟨b',c'',arr,hr',hh,hcv,_⟩:=hb o _ (.head _)
  rw[hr] at hr';cases hr'
  obtain⟨u,hu',hcu⟩:=Dv hcv hc
  exact⟨u,by simp[execOp,hu,lL (P:=P) (show w.cell? ⟨b,k,ξ⟩=ς u by rw[d7 hh];simp_all)],hcu⟩
theorem FJ{o:Nat}[ht:fU P t n](hk:k+n<=cs.length):
 AWN P ⟨d,.load t x,ty,ps,af,gd⟩ [(x,.v (.c (.p o k)))] [(o,.var vt cs)] (.v (.agg ((cs.drop k).take n))) []:=
 cd λE ac w hn hb=>by
  obtain⟨b,c',hr,hu⟩:=hn x _ (.head _)
  obtain⟨b',c'',arr,hr',hh,hcv,_⟩:=hb o _ (.head _)
  rw[hr] at hr';cases hr'
  have hl:=iU hcv
  refine⟨.agg ((arr.toList.drop k).take n).toArray,by
   simp[execOp,hu,p5 (P:=P) (t:=t) (n:=n) (b:=b) (k:=k) (us:=(arr.toList.drop k).take n) (w:=w) (by grind) (λj u hj=>by
    rw[d7 hh]
    grind)],_,rfl,EJ n (EG k hcv)⟩
theorem QP{e:List D}{xd:D}[ht:ic P t](hc:e[j]?=ς xd):AWN P ⟨d,.load t x,ty,ps,af,gd⟩ [(x,.v (.c (.q g e j)))] [] (.v (.c (ldC g xd))) []:=
 cd λE ac w hn hb=>by
  obtain⟨b,k,hu,hF,hr⟩:=hn x _ (.head _)
  obtain⟨u,hc,hd⟩:=lc hr hc
  exact⟨u,by simp[execOp,hu,lL (P:=P) hc],B1 hd⟩
theorem yK{w:World}{F:Nat->Prop}:∀{e:List D} {b k:Nat},rdL w F e b k->∃us:Lae,us.length=e.length/\(∀(j:Nat) (u:Value),us[j]?=ς u->w.cell? ⟨b,k+j,ξ⟩=ς u)/\∀(j:Nat) (xd:D),e[j]?=ς xd->∃u,us[j]?=ς u/\rdD w F xd u
 |[],b,k,_=>⟨[],rfl,by simp,by simp⟩
 |x::e,b,k,h=>by
  rw[rdL] at h
  obtain⟨⟨u,hc,hd⟩,h⟩:=h
  obtain⟨us,h1,h2,h3⟩:=yK h
  refine⟨u::us,by simp[h1],λj v hj=>?_,λj xd hj=>?_⟩
  .grind
  grind
theorem zm{E:Env}{w:World}{g:Bool}:∀{e:List D} {us:Lae},us.length=e.length->(∀(j:Nat) (xd:D),e[j]?=ς xd->∃u,us[j]?=ς u/\rdD w (E.H g) xd u)->CV E w (e.map (ldC g)) us
 |[],[],_,_=>trivial
 |x::e,u::us,hl,h=>by
  obtain⟨v,h1,h2⟩:=h 0 x rfl
  simp at h1;subst h1
  exact⟨B1 h2,zm (by simp_all) λj xd hj=>by
   obtain⟨v,h3,h4⟩:=h (j+1) xd (by simp_all)
   simp_all⟩
 |[],_::_,hl,_=>by simp at hl
 |_::_,[],hl,_=>by simp at hl
theorem Ig{F:Nat->Prop}{e:List D}{b:Nat}(h:rdL w F e b k)(j n:Nat):rdL w F ((e.drop j).take n) b (k+j):=
 lO λi xd hi=>by
  rw[YK] at hi
  split at hi
  .rw[YL] at hi
   have:=lc h hi
   grind
  cases hi
theorem FK{e:List D}[ht:fU P t n](hj:j+n<=e.length):
 AWN P ⟨d,.load t x,ty,ps,af,gd⟩ [(x,.v (.c (.q g e j)))] [] (.v (.agg (((e.drop j).take n).map (ldC g)))) []:=
 cd λE ac w hn hb=>by
  obtain⟨b,k,hu,hF,hr⟩:=hn x _ (.head _)
  obtain⟨us,h1,h2,h3⟩:=yK (Ig hr j n)
  exact⟨.agg us.toArray,by simp[execOp,hu,p5 (P:=P) (t:=t) (n:=n) (us:=us) (by grind) h2],_,rfl,zm h1 h3⟩
theorem QN{o i:Nat}{rt:TypeId}{xd:D}[ht:ic P t](he:els[i]?=ς el)(hc:el[j]?=ς xd):
 AWN P ⟨d,.load t x,ty,ps,af,gd⟩ [(x,.v (.c (.e o sz i j)))] [(o,.row rt sz els g m)] (.v (.c (ldC g xd))) []:=
 cd λE ac w hn hb=>by
  obtain⟨b,c',hr,hu⟩:=hn x _ (.head _)
  obtain⟨b',c'',arr,hr',hh,h1,h2,h3,h4,h5,_⟩:=hb o _ (.head _)
  rw[hr] at hr';cases hr'
  obtain⟨u,hc,hd⟩:=lc (oi h5 h4 he) hc
  exact⟨u,by simp[execOp,hu,lL (P:=P) (t:=t) (show w.cell? ⟨b,i*sz+j,ξ⟩=ς u by simp_all)],B1 hd⟩
theorem FH{o i:Nat}{rt:TypeId}[ht:fU P t n](he:els[i]?=ς el)(hj:j+n<=el.length):
 AWN P ⟨d,.load t x,ty,ps,af,gd⟩ [(x,.v (.c (.e o sz i j)))] [(o,.row rt sz els g m)] (.v (.agg (((el.drop j).take n).map (ldC g)))) []:=
 cd λE ac w hn hb=>by
  obtain⟨b,c',hr,hu⟩:=hn x _ (.head _)
  obtain⟨b',c'',arr,hr',hh,h1,h2,h3,h4,h5,_⟩:=hb o _ (.head _)
  rw[hr] at hr';cases hr'
  obtain⟨us,h6,h7,h8⟩:=yK (Ig (oi h5 h4 he) j n)
  exact⟨.agg us.toArray,by simp[execOp,hu,p5 (P:=P) (t:=t) (n:=n) (b:=b) (k:=i*sz+j) (us:=us) (by grind) (λj' u hj'=>by have:=h7 j' u hj';simpa using this)],_,rfl,zm h6 h8⟩
theorem QL{c:C}[h:TyF P t f off ft][ht:ic P ft](hc:cs[off]?=ς c):AWN P ⟨d,.field t x f,ty,ps,af,gd⟩ [(x,.v (.agg cs))] [] (.v (.c c)) []:=
 cd λE ac w hn hb=>by
  obtain⟨arr,hu,hcv⟩:=hn x _ (.head _)
  obtain⟨u,hu',hcu⟩:=Dv hcv hc
  obtain⟨fs,fd,h1,h2,rfl,rfl,i,h3,h4⟩:=h.h
  exact⟨u,by simp[execOp,hu,Instr.field,underlying,h1,h2,asAgg,part,ht.h,show arr[fd.offset]?=ς u by simp_all],hcu⟩
theorem FG[h:TyF P t f off ft][ht:fU P ft n]:AWN P ⟨d,.field t x f,ty,ps,af,gd⟩ [(x,.v (.agg cs))] [] (.v (.agg ((cs.drop off).take n))) []:=
 cd λE ac w hn hb=>by
  obtain⟨arr,hu,hcv⟩:=hn x _ (.head _)
  obtain⟨fs,fd,h1,h2,rfl,rfl,i,h3,h4⟩:=h.h
  obtain⟨i',h5,h6⟩:=ht.n
  refine⟨.agg (arr.extract fd.offset (fd.offset+n)),by simp[execOp,hu,Instr.field,underlying,h1,h2,asAgg,part,ht.h,eA h5,h6],_,rfl,?_⟩
  have:=EJ n (EG fd.offset hcv)
  simp_all
theorem HV{s:ByteArray}{c:UInt8}[ht:TyU P t .string](h0:0<=i)(hc:s[i.toNat]?=ς c):
 AWN P ⟨d,.index t x y,ty,ps,af,gd⟩ [(x,.v (.c (.d g (.str s)))),(y,.v (.c (.d g' (.i kd i))))] [] (.v (.c (.d η (.i .u8 c.toNat)))) []:=
 cd λE ac w hn _=>by
  have h1:=uN (hn x _ (.head _))
  have h2:=gz (hn y _ (.tail _ (.head _)))
  exact⟨_,by simp[execOp,h1,h2,Instr.index,asIntOf,underlying,ht.h,h0,hc];rfl,by rfl⟩
end
def tkO{α:Type}:Nat->List α->Option (List α)
 |0,_=>ς []
 |n+1,x::xs=>match tkO n xs with|some r=>ς (x::r)|none=>ξ
 |_+1,[]=>ξ
def drO{α:Type}:Nat->List α->Option (List α)
 |0,xs=>ς xs
 |n+1,_::xs=>drO n xs
 |_+1,[]=>ξ
def yG(k n:Nat)(xs:List α):Option (List α):=match drO k xs with|some r=>tkO n r|none=>ξ
def qI{α:Type}:Nat->List α->List α->Option (List α)
 |0,[],cs=>ς cs
 |0,n::ns,_::cs=>match qI 0 ns cs with|some r=>ς (n::r)|none=>ξ
 |0,_::_,[]=>ξ
 |k+1,ns,c::cs=>match qI k ns cs with|some r=>ς (c::r)|none=>ξ
 |_+1,_,[]=>ξ
theorem Sv{α:Type}:∀{n:Nat} {xs r:List α},tkO n xs=ς r->r=xs.take n/\n<=xs.length
 |0,xs,r,h=>by simp[tkO] at h;subst h;simp
 |n+1,[],r,h=>by simp[tkO] at h
 |n+1,x::xs,r,h=>by
  simp only[tkO] at h
  cases h1:tkO n xs with
  |none=>simp_all
  |some s=>simp[h1] at h;obtain⟨h2,h3⟩:=Sv h1;simp_all
theorem PF{α:Type}:∀{n:Nat} {xs r:List α},drO n xs=ς r->r=xs.drop n/\n<=xs.length
 |0,xs,r,h=>by simp[drO] at h;subst h;simp
 |n+1,[],r,h=>by simp[drO] at h
 |n+1,x::xs,r,h=>by simp only[drO] at h;obtain⟨h2,h3⟩:=PF h;simp_all
theorem yH{xs r:List α}(h:yG k n xs=ς r):r=(xs.drop k).take n/\k+n<=xs.length:=by
 unfold yG at h
 cases h1:drO k xs with
 |none=>simp_all
 |some s=>
  simp[h1] at h
  obtain⟨h2,h3⟩:=PF h1
  obtain⟨h4,h5⟩:=Sv h
  grind
theorem rF{α:Type}:∀{k:Nat} {ns cs r:List α},qI k ns cs=ς r->r=cs.take k++ns++cs.drop (k+ns.length)/\k+ns.length<=cs.length
 |0,[],cs,r,h=>by simp[qI] at h;subst h;simp
 |0,n::ns,[],r,h=>by simp[qI] at h
 |0,n::ns,c::cs,r,h=>by
  simp only[qI] at h
  cases h1:qI 0 ns cs with
  |none=>simp_all
  |some s=>simp[h1] at h;obtain⟨h2,h3⟩:=rF h1;simp_all
 |k+1,ns,[],r,h=>by cases ns<;>simp[qI] at h
 |k+1,ns,c::cs,r,h=>by
  have h':(match qI k ns cs with|some r=>ς (c::r)|none=>ξ)=ς r:=by cases ns<;>simpa [qI] using h
  cases h1:qI k ns cs with
  |none=>simp_all
  |some s=>
   simp[h1] at h';obtain⟨h2,h3⟩:=rF h1;grind
theorem IN{ns cs r:List α}(h:qI k ns cs=ς r)(i:Nat):r[i]?=if k<=i/\i<k+ns.length then ns[i-k]? else cs[i]?:=by
 obtain⟨h1,h2⟩:=rF h
 subst h1
 have hk:(cs.take k).length=k:=by simp;omega
 grind
theorem Vp{E:Env}{w:World}:∀{cs:List C} {us:Lae},us.length=cs.length->(∀(k:Nat) (c:C),cs[k]?=ς c->∃u,us[k]?=ς u/\cvC E w c u)->CV E w cs us
 |[],[],_,_=>trivial
 |c::cs,u::us,hl,h=>by
  obtain⟨v,h1,h2⟩:=h 0 c rfl
  simp at h1;subst h1
  exact⟨h2,Vp (by simp_all) λk c' hk=>by
   obtain⟨v,h3,h4⟩:=h (k+1) c' (by simp_all)
   simp_all⟩
 |[],_::_,hl,_=>by simp at hl
 |_::_,[],hl,_=>by simp at hl
section
variable{P:Program}{N:Nat}{d:Option Tmp}{ty:TypeId}{ps:String}{af:Array Edge}{gd:Option (Nat×Bool)}{x y z:Operand}
theorem Dk{o:Nat}{r:List C}[ht:fU P t n](hk:yG k n cs=ς r):
 AWN P ⟨d,.load t x,ty,ps,af,gd⟩ [(x,.v (.c (.p o k)))] [(o,.var vt cs)] (.v (.agg r)) []:=by
 obtain⟨h1,h2⟩:=yH hk
 subst h1
 exact FJ h2
def ldO(g:Bool):List D->Option (List C)
 |[]=>ς []
 | .i k n::r=>match ldO g r with|some cs=>ς (.d η (.i k n)::cs)|none=>ξ
 | .b x::r=>match ldO g r with|some cs=>ς (.d η (.b x)::cs)|none=>ξ
 | .str s::r=>match ldO g r with|some cs=>ς (.d η (.str s)::cs)|none=>ξ
 | .l xs::r=>match ldO g r with|some cs=>ς (.d g (.l xs)::cs)|none=>ξ
 | .k A n c::r=>match ldO g r with|some cs=>ς (.d η (.k A n c)::cs)|none=>ξ
theorem Fw{g:Bool}:∀{xs:List D} {cs:List C},ldO g xs=ς cs->cs=xs.map (ldC g)
 |[],cs,h=>by simp[ldO] at h;subst h;rfl
 |x::xs,cs,h=>by
  cases h1:ldO g xs with
  |none=>cases x<;>simp[ldO,h1] at h
  |some r=>have:=Fw h1;subst this;cases x<;>simp[ldO,h1] at h<;>subst h<;>rfl
def B2(g:Bool)(j n:Nat)(e:List D):Option (List C):=match yG j n e with|some r=>ldO g r|none=>ξ
theorem Fy{e:List D}(h:B2 g j n e=ς cs):cs=((e.drop j).take n).map (ldC g)/\j+n<=e.length:=by
 unfold B2 at h
 cases h1:yG j n e with
 |none=>simp_all
 |some r=>simp[h1] at h;obtain⟨h2,h3⟩:=yH h1;subst h2;exact⟨Fw h,h3⟩
def ld1(g:Bool)(j:Nat)(e:List D):Option C:=match B2 g j 1 e with|some [c]=>ς c|_=>ξ
theorem QB{e:List D}{c:C}(h:ld1 g j e=ς c):∃xd,e[j]?=ς xd/\c=ldC g xd:=by
 unfold ld1 at h
 split at h
 .rename_i c' h1
  simp at h;subst h
  obtain⟨h2,h3⟩:=Fy h1
  have hj:j<e.length:=by omega
  refine⟨e[j],Yb hj,?_⟩
  rw[YS hj,YH] at h2
  injection h2
 cases h
theorem Dl{e:List D}[ht:fU P t n](hj:B2 g j n e=ς cs):
 AWN P ⟨d,.load t x,ty,ps,af,gd⟩ [(x,.v (.c (.q g e j)))] [] (.v (.agg cs)) []:=by
 obtain⟨h1,h2⟩:=Fy hj
 subst h1
 exact FK h2
theorem NM{e:List D}{c:C}[ht:ic P t](hc:ld1 g j e=ς c):AWN P ⟨d,.load t x,ty,ps,af,gd⟩ [(x,.v (.c (.q g e j)))] [] (.v (.c c)) []:=by
 obtain⟨xd,h1,rfl⟩:=QB hc
 exact QP h1
theorem D2{o i:Nat}{rt:TypeId}{c:C}[ht:ic P t](he:els[i]?=ς el)(hc:ld1 g j el=ς c):
 AWN P ⟨d,.load t x,ty,ps,af,gd⟩ [(x,.v (.c (.e o sz i j)))] [(o,.row rt sz els g m)] (.v (.c c)) []:=by
 obtain⟨xd,h1,rfl⟩:=QB hc
 exact QN he h1
theorem xe{o i:Nat}{rt:TypeId}[ht:fU P t n](he:els[i]?=ς el)(hj:B2 g j n el=ς cs):
 AWN P ⟨d,.load t x,ty,ps,af,gd⟩ [(x,.v (.c (.e o sz i j)))] [(o,.row rt sz els g m)] (.v (.agg cs)) []:=by
 obtain⟨h1,h2⟩:=Fy hj
 subst h1
 exact FH he h2
theorem Di{r:List C}[h:TyF P t f off ft][ht:fU P ft n](hr:yG off n cs=ς r):AWN P ⟨d,.field t x f,ty,ps,af,gd⟩ [(x,.v (.agg cs))] [] (.v (.agg r)) []:=by
 obtain⟨h1,h2⟩:=yH hr
 subst h1
 exact FG
def Env.new(E:Env)(l b c:Nat):Env:={E with r:=λo=>if o=l then ς (b,c) else E.r o}
theorem T5{cx:Cx}(ok:da cx E w)(hl:E.r l=ξ)(hv:rsv l=η)(o:Obj)(c:Nat):
 da cx (E.new l w.heap.size c) (w.alloc o)/\Ext E w (E.new l w.heap.size c) (w.alloc o):=by
 have hne:∀o' x,E.r o'=ς x->o'≠l:=λo' x h e=>by simp_all
 refine⟨⟨λb hb=>?_,ok.gf,ok.gn,λo' b c' h=>?_,λo1 o2 b c1 c2 h1 h2=>?_,ok.os,ok.tape,ok.output,?_,λb hb hW=>?_,λo' x hx h=>?_,ok.ff,λb h h'=>(ok.gc b h h').of_eq (Below.heap_alloc w o b (ok.fb b h)),ok.sf.grow rfl rfl (λ_ h=>.inl h) (λo' b c' h=>?_) (by simp) (λb hb=>Below.heap_alloc w o b hb)⟩,⟨λo' x h=>?_,λ_ h=>h,λ_ h=>h,λ_ h=>.inl h,λb hb=>Below.heap_alloc w o b hb,rfl,rfl,rfl⟩⟩
 .have:=ok.fb b hb;simp;omega
 .simp only[Env.new] at h
  split at h
  .cases h;have:=ok.size;simp;omega
  obtain⟨h3,h4⟩:=ok.rb o' b c' h;exact⟨by simp;omega,h4⟩
 .simp only[Env.new] at h1 h2
  split at h1<;>split at h2
  .omega
  .cases h1;have:=ok.rb o2 _ _ h2;omega
  .cases h2;have:=ok.rb o1 _ _ h1;omega
  exact ok.inj o1 o2 b c1 c2 h1 h2
 .have:=ok.size;simp;omega
 .have:=ok.size;rw[Below.heap_alloc w o b oaa];exact ok.block b hb hW
 .simp only[Env.new] at h
  split at h
  .rename_i e;subst e;rw[pk hv] at hx;cases hx
  exact ok.pin o' x hx h
 .simp only[Env.new] at h
  grind
 simp only[Env.new];grind
theorem Fj{cx:Cx}(ok:da cx E w)(hl:E.r l=ξ)(o:Obj)(c:Nat):Ext E w (E.new l w.heap.size c) (w.alloc o):=
 ⟨λo' x h=>by
  have hne:o'≠l:=λe=>by simp_all
  simp only[Env.new];simp_all,λ_ h=>h,λ_ h=>h,λ_ h=>.inl h,λb hb=>Below.heap_alloc w o b hb,rfl,rfl,rfl⟩
theorem xf(E:Env)(l b c:Nat):(E.new l b c).r l=ς (b,c):=by simp[Env.new]
theorem oD(w:World)(o:Obj):(w.alloc o).heap[w.heap.size]?=ς o:=heap_alloc_new w o
theorem ya{o:Oper}{needs:List (Operand×T)}{nb:Ob}(h:∀(cx:Cx) (E:Env) (a:Act) (w:World),da cx E w->(∀x t,(x,t)∈needs->cvT E w t (a.eval x))->(∀l ob,(l,ob)∈nob->cB E w l ob)->E.r l=ξ->
 ∃v ob c,(execOp a.eval o).run P w= .ok (.value v) (w.alloc ob)/\cvT (E.new l w.heap.size c) (w.alloc ob) out v/\cB (E.new l w.heap.size c) (w.alloc ob) l nb):AWN P o needs nob out [(l,nb)]:=by
 intro cx E a w ok hn hb hl
 obtain⟨v,ob,c,hr,hv,ho⟩:=h cx E a w ok hn hb (hl l nb (by simp)).1
 obtain⟨ok',ext⟩:=T5 ok (hl l nb (by simp)).1 (hl l nb (by simp)).2 ob c
 unfold Oper.wp
 rw[hr]
 refine⟨v,_,rfl,ok',ext,hv,λl' ob' hm=>?_,λl' x hx=>?_⟩
 .simp_all
 simp only[Env.new] at hx
 grind
theorem va{cx:Cx}(ok:da cx E w)(l c:Nat):¬(E.new l w.heap.size c).F w.heap.size:=λh=>by have:=ok.fb _ h;omega
theorem Uo{zs:List C}[hz:TyZ P t zs]:AWN P ⟨d,.alloc t,ty,ps,af,gd⟩ [] [] (.v (.c (.p l 0))) [(l,.var t zs)]:=
 ya λcx E a w ok _ _ hl=>by
  obtain⟨i,z,h1,h2,h3⟩:=hz.h
  refine⟨.pointer (ς ⟨w.heap.size,0,ξ⟩),.cells z.cells t,0,by simp[execOp,Instr.alloc,zeroValue,typeInfo,h1,h2,newVar,newRow],?_,?_⟩
  .exact⟨_,_,xf _ _ _ _,rfl⟩
  refine⟨_,_,z.cells,xf _ _ _ _,oD _ _,?_,va ok _ _⟩
  rw[<-h3];exact rZ _ _ _
theorem Nz:AWN P ⟨d,.box t x,ty,ps,af,gd⟩ [(x,.v (.agg cs))] [] (.v (.c (.p l 0))) [(l,.var t cs)]:=
 ya λcx E a w ok hn _ hl=>by
  obtain⟨arr,hu,hcv⟩:=hn x _ (.head _)
  refine⟨.pointer (ς ⟨w.heap.size,0,ξ⟩),.cells arr t,0,by simp[execOp,Instr.box,hu,newVar,newRow,Value.cells],⟨_,_,xf _ _ _ _,rfl⟩,?_⟩
  exact⟨_,_,arr,xf _ _ _ _,oD _ _,pK (.of_ext ok (Fj ok hl _ 0)) hcv,va ok _ _⟩
def C.sto:C->Bool
 | .any=>η
 |_=>ζ
theorem Kx{c:C}(hs:c.sto=ζ)(h:cvC E w c u):u.oneCell'=ζ/\u.cells= #[u]:=by
 cases c with
 |d g x=>exact⟨tM h,zM h⟩
 |w o n=>obtain⟨b,c,_,rfl⟩:=h;exact⟨rfl,rfl⟩
 |wn o n=>
  rcases h with⟨_,_,rfl⟩|⟨_,b,c,_,rfl⟩
  .exact⟨rfl,rfl⟩
  exact⟨rfl,rfl⟩
 |s o sz off len=>obtain⟨A,c,b,k,_,rfl,_⟩:=h;exact⟨rfl,rfl⟩
 |p o k=>obtain⟨b,c,_,rfl⟩:=h;exact⟨rfl,rfl⟩
 |e o sz i j=>obtain⟨b,c,_,rfl⟩:=h;exact⟨rfl,rfl⟩
 |q g x j=>obtain⟨b,k,rfl,_⟩:=h;exact⟨rfl,rfl⟩
 |fn f=>subst h;exact⟨rfl,rfl⟩
 |nil=>subst h;exact⟨rfl,rfl⟩
 |any=>cases hs
 |r l x=>exact⟨tM h,zM h⟩
 |z x=>exact Kd h
 |zq x j=>obtain⟨b,k,rfl,_⟩:=h;exact⟨rfl,rfl⟩
theorem Up{c:C}(hs:c.sto=ζ):AWN P ⟨d,.box t x,ty,ps,af,gd⟩ [(x,.v (.c c))] [] (.v (.c (.p l 0))) [(l,.var t [c])]:=
 ya λcx E a w ok hn _ hl=>by
  have hu:cvC E w c (a.eval x):=hn x _ (.head _)
  obtain⟨h1,h2⟩:=Kx hs hu
  refine⟨.pointer (ς ⟨w.heap.size,0,ξ⟩),.cells #[a.eval x] t,0,by simp[execOp,Instr.box,h2,newVar,newRow],⟨_,_,xf _ _ _ _,rfl⟩,?_⟩
  exact⟨_,_,#[a.eval x],xf _ _ _ _,oD _ _,⟨sj (.of_ext ok (Fj ok hl _ 0)) hu,θ⟩,va ok _ _⟩
def cD:C->Option (D×Bool)
 | .d g (.l xs)=>ς (.l xs,g)
 | .d _ (.i k n)=>ς (.i k n,ζ)
 | .d _ (.b b)=>ς (.b b,ζ)
 | .d _ (.str s)=>ς (.str s,ζ)
 | .d _ (.k A n c)=>ς (.k A n c,ζ)
 | .nil=>ς (.l [],ζ)
 |_=>ξ
def csD:List C->Option (List D×Bool)
 |[]=>ς ([],ζ)
 |c::cs=>match cD c,csD cs with
  |some (x,g),ς (xs,g')=>ς (x::xs,g&&g')
  |_,_=>ξ
def vD:V->Option (List D×Bool)
 | .c c=>match cD c with
  |some (x,g)=>ς ([x],g)
  |none=>ξ
 | .agg cs=>csD cs
theorem Vy{cx:Cx}(ok:da cx E w){c:C}{x:D}(h:cD c=ς (x,g))(hc:cvC E w c u):rdD w (E.H g) x u/\u.oneCell'=ζ/\u.cells= #[u]:=by
 cases c with
 |d g' x'=>
  refine⟨?_,tM hc,zM hc⟩
  cases x'<;>simp[cD] at h<;>obtain⟨rfl,rfl⟩:=h<;>first|exact hc|(simp only[cvC,rdD] at hc ⊢;exact hc)
 |nil=>
  simp[cD] at h
  obtain⟨rfl,rfl⟩:=h
  have hu:u= .slice ξ 0 0:=hc
  subst hu
  exact⟨by rw[rdD];simp_all,rfl,rfl⟩
 |_=>simp[cD] at h
theorem mj{cx:Cx}(ok:da cx E w){x:D}(h:rdD w (E.H (g)) x u)(hg:g'=ζ->g=ζ):rdD w (E.H g') x u:=by
 cases g' with
 |true=>simp_all
 |false=>
  cases g with
  |false=>exact h
  |true=>exact cm (λ_ _=>rfl) (λb hb=>ok.gf b hb) x u h
theorem Pp{cx:Cx}{E:Env}{w:World}(ok:da cx E w):∀{cs:List C} {xs:List D} {g:Bool} {us:Lae},csD cs=ς (xs,g)->CV E w cs us->
 xs.length=us.length/\(∀u∈us,u.oneCell'=ζ)/\∀(j:Nat) (xd:D),xs[j]?=ς xd->∃u,us[j]?=ς u/\rdD w (E.H g) xd u
 |[],xs,g,us,h,hc=>by
  simp[csD] at h;obtain⟨rfl,rfl⟩:=h
  cases us with
  |nil=>simp_all
  |cons _ _=>exact hc.elim
 |c::cs,xs,g,us,h,hc=>by
  cases us with
  |nil=>exact hc.elim
  |cons u us=>
   cases h1:cD c with
   |none=>simp[csD,h1] at h
   |some p=>
    obtain⟨x,g1⟩:=p
    cases h2:csD cs with
    |none=>simp[csD,h1,h2] at h
    |some p=>
     obtain⟨xs',g2⟩:=p
     simp[csD,h1,h2] at h
     obtain⟨rfl,rfl⟩:=h
     obtain⟨k1,k2,k3⟩:=Vy ok h1 hc.1
     obtain⟨m1,m2,m3⟩:=Pp ok h2 hc.2
     refine⟨by simp[m1],by simp_all,λj xd hj=>?_⟩
     cases j with
     |zero=>simp at hj;subst hj;exact⟨u,rfl,mj ok k1 (by simp_all)⟩
     |succ j=>
      obtain⟨v,n1,n2⟩:=m3 j xd (by simp_all)
      exact⟨v,by simp_all,mj ok n2 (by simp)⟩
theorem SF{cx:Cx}(ok:da cx E w){v:V}{xs:List D}(h:vD v=ς (xs,g))(hv:cvV E w v u):
 u.cells.size=xs.length/\(∀c∈u.cells.toList,c.oneCell'=ζ)/\∀(j:Nat) (xd:D),xs[j]?=ς xd->∃c,u.cells[j]?=ς c/\rdD w (E.H g) xd c:=by
 cases v with
 |c c=>
  cases h1:cD c with
  |none=>simp[vD,h1] at h
  |some p=>
   obtain⟨x,g1⟩:=p
   simp[vD,h1] at h
   obtain⟨rfl,rfl⟩:=h
   obtain⟨k1,k2,k3⟩:=Vy ok h1 hv
   grind
 |agg cs=>
  obtain⟨arr,rfl,hc⟩:=hv
  obtain⟨m1,m2,m3⟩:=Pp ok h hc
  refine⟨by simpa [Value.cells] using m1.symm,by simpa [Value.cells] using m2,λj xd hj=>?_⟩
  obtain⟨c,n1,n2⟩:=m3 j xd hj
  exact⟨c,by simpa [Value.cells] using n1,n2⟩
end
class TyB(P:Program)(t:TypeId)(pl:outParam Lac):Prop where
 h:∃fs,P.underlying t=ς (.struct fs)/\∀w,(fs.mapM (λf=>Prod.mk f.offset<$>sizeOf f.type):Sem (Array (Nat×Nat))).run P w= .ok pl.toArray w
def o9:Lae->Option (List D)
 |[]=>ς []
 | .int k n::r=>match o9 r with|some xs=>ς (.i k n::xs)|none=>ξ
 | .bool b::r=>match o9 r with|some xs=>ς (.b b::xs)|none=>ξ
 | .string s::r=>match o9 r with|some xs=>ς (.str s::xs)|none=>ξ
 | .slice ξ 0 0::r=>match o9 r with|some xs=>ς (.l []::xs)|none=>ξ
 |_=>ξ
class TyE(P:Program)(e:TypeId)(zd:outParam (List D)):Prop where
 h:∃i z,P.info? e=ς i/\i.zero=ς z/\o9 z.cells.toList=ς zd
theorem xt{w:World}{F:Nat->Prop}:∀{us:Lae} {xs:List D},o9 us=ς xs->us.length=xs.length/\∀(j:Nat) (xd:D),xs[j]?=ς xd->∃u,us[j]?=ς u/\rdD w F xd u
 |[],xs,h=>by simp[o9] at h;simp_all
 |u::us,xs,h=>by
  have key:∃x xs',xs=x::xs'/\o9 us=ς xs'/\rdD w F x u:=by
   unfold o9 at h
   split at h
   .simp at*
   .rename_i e;injection e with e1 e2;subst e1;subst e2;split at h
    .rename_i r h1;simp at h;exact⟨_,r,h.symm,h1,by simp[rdD]⟩
    cases h
   .rename_i e;injection e with e1 e2;subst e1;subst e2;split at h
    .rename_i r h1;simp at h;exact⟨_,r,h.symm,h1,by simp[rdD]⟩
    cases h
   .rename_i e;injection e with e1 e2;subst e1;subst e2;split at h
    .rename_i r h1;simp at h;exact⟨_,r,h.symm,h1,by simp[rdD]⟩
    cases h
   .rename_i e;injection e with e1 e2;subst e1;subst e2;split at h
    .rename_i r h1;simp at h;exact⟨_,r,h.symm,h1,by rw[rdD];simp_all⟩
    cases h
   cases h
  obtain⟨x,xs',rfl,h1,h2⟩:=key
  obtain⟨k1,k2⟩:=xt (w:=w) (F:=F) h1
  grind
def vcs:V->Option (List C)
 | .c c=>match c.sto with|true=>ς [c]|false=>ξ
 | .agg cs=>ς cs
theorem GE{v:V}(h:vcs v=ς cs)(hv:cvV E w v u):CV E w cs u.cells.toList:=by
 cases v with
 |c c=>
  simp only[vcs] at h
  cases hs:c.sto with
  |false=>simp_all
  |true=>simp[hs] at h;subst h;obtain⟨_,h2⟩:=Kx hs hv;rw[h2];exact⟨hv,θ⟩
 |agg cs'=>simp[vcs] at h;subst h;obtain⟨arr,rfl,hc⟩:=hv;exact hc
def Bp(pl:Lac):List C->List (Nat×V)->Option (List C)
 |cs,[]=>ς cs
 |cs,(i,v)::r=>match pl[i]?,vcs v with
  |some (off,n),ς ns=>match f4 ns.length n,qI off ns cs with
   |true,ς cs'=>Bp pl cs' r
   |_,_=>ξ
  |_,_=>ξ
def PV(E:Env)(w:World):List (Nat×V)->List (Nat×Value)->Prop
 |[],[]=>True
 |(i,v)::r,(j,u)::s=>i=j/\cvV E w v u/\PV E w r s
 |_,_=>False
theorem zn{ns r:List C}{us vs ws:Lae}(h:qI off ns cs=ς r)(hn:CV E w ns us)(hc:CV E w cs vs)(hl:ws.length=vs.length)(hw:∀k,ws[k]?=if off<=k/\k<off+us.length then us[k-off]? else vs[k]?):CV E w r ws:=by
 have hln:=iU hn
 have hlc:=iU hc
 refine Vp ?_ λk c hk=>?_
 .obtain⟨h1,h2⟩:=rF h;grind
 rw[IN h k] at hk
 rw[hw k,hln]
 split at hk
 .rename_i hi;rw[if_pos hi];exact Dv hn hk
 rename_i hi;rw[if_neg hi];exact Dv hc hk
theorem Lb{E:Env}{w:World}{pl:Lac}:∀{ps:List (Nat×V)} {us:List (Nat×Value)} {cs r:List C} {arr:Array Value},PV E w ps us->CV E w cs arr.toList->Bp pl cs ps=ς r->
 ∃arr',Instr.fill (pl.toArray[·]?) arr us=ς arr'/\CV E w r arr'.toList
 |[],[],cs,r,arr,_,hc,h=>by simp[Bp] at h;subst h;exact⟨arr,rfl,hc⟩
 |(i,v)::ps,(j,u)::us,cs,r,arr,hp,hc,h=>by
  obtain⟨rfl,hv,hp⟩:=hp
  simp only[Bp] at h
  split at h
  .rename_i off n ns h1 h2
   split at h
   .rename_i cs' h3 h4
    have h3':=Yf h3
    have hcn:=GE h2 hv
    have hl:=iU hcn
    have hlc:=iU hc
    obtain⟨g1,g2⟩:=Go.Great.foldl_set off u.cells.toList 0 arr
    have hsz:u.cells.size=n:=by simp at hl;omega
    have hle:=(rF h4).2
    have hsp:CV E w cs' ((u.cells.toList.zipIdx 0).foldl (λcs (x:Value×Nat)=>cs.setIfInBounds (off+x.2) x.1) arr).toList:=by
     refine zn h4 hcn hc (by simp[g1]) λk=>?_
     rw[Array.getElem?_toList,g2 k]
     simp only[YN]
     by_cases hk:off<=k/\k<off+u.cells.toList.length
     .grind
     grind
    obtain⟨arr',k1,k2⟩:=Lb (pl:=pl) hp hsp h
    refine⟨arr',?_,k2⟩
    rw[<-k1]
    conv=>lhs;unfold Instr.fill
    have hpl:pl.toArray[i]?=ς (off,n):=by simpa using h1
    simp only[hpl]
    rw[if_neg (by simp_all)]
    congr 1
    rw[<-Array.foldl_toList,Array.toList_zipIdx]
   cases h
  cases h
 |[],_::_,_,_,_,hp,_,_=>hp.elim
 |_::_,[],_,_,_,hp,_,_=>hp.elim
section
variable{P:Program}{N:Nat}{d:Option Tmp}{ty:TypeId}{ps:String}{af:Array Edge}{gd:Option (Nat×Bool)}{x y z:Operand}
theorem OZ{E:Env}{a:Act}{w:World}:∀{parts:List (Nat×Operand)} {vs:List V},vs.length=parts.length->(∀x t,(x,t)∈(parts.map (·.2)).zip (vs.map T.v)->cvT E w t (a.eval x))->
 PV E w ((parts.map (·.1)).zip vs) (parts.map λp=>(p.1,a.eval p.2))
 |[],[],_,_=>trivial
 |(i,x)::ps,v::vs,hl,h=>⟨rfl,h x (.v v) (by simp),OZ (by simp_all) λx t hm=>h x t (by simp_all)⟩
 |[],_::_,hl,_=>by simp at hl
 |_::_,[],hl,_=>by simp at hl
theorem LT{zs:List C}{pl:Lac}{parts:List (Nat×Operand)}[hz:TyZ P t zs][hb:TyB P t pl](hv:vs.length=parts.length)(h:Bp pl zs ((parts.map (·.1)).zip vs)=ς cs):AWN P ⟨d,.build t parts.toArray,ty,ps,af,gd⟩ ((parts.map (·.2)).zip (vs.map T.v)) [] (.v (.agg cs)) []:=
 cd λE a w hn _=>by
  obtain⟨i,z,h1,h2,h3⟩:=hz.h
  obtain⟨fs,h4,h5⟩:=hb.h
  obtain⟨arr',k1,k2⟩:=Lb (arr:=z.cells) (OZ hv hn) (by rw[<-h3];exact rZ _ _ _) h
  refine⟨.agg arr',?_,arr',rfl,k2⟩
  have k1':Instr.fill (λx=>pl[x]?) z.cells (List.map (λp=>(p.fst,a.eval p.snd)) parts)=ς arr':=by simpa using k1
  simp[execOp,Instr.build,zeroValue,typeInfo,h1,h2,underlying,h4,h5,k1']
def vsD:List V->Option (Lad×Bool)
 |[]=>ς ([],ζ)
 |v::vs=>match vD v,vsD vs with
  |some (e,g),ς (es,g')=>ς (e::es,g&&g')
  |_,_=>ξ
theorem SH{cx:Cx}{E:Env}{w:World}(ok:da cx E w):∀{vs:List V} {els:Lad} {g:Bool},vsD vs=ς (els,g)->els.length=vs.length/\
 ∀(i:Nat) (e:List D),els[i]?=ς e->∃v g',vs[i]?=ς v/\vD v=ς (e,g')/\(g=ζ->g'=ζ)
 |[],els,g,h=>by simp[vsD] at h;simp_all
 |v::vs,els,g,h=>by
  cases h1:vD v with
  |none=>simp[vsD,h1] at h
  |some p=>
   obtain⟨e,g1⟩:=p
   cases h2:vsD vs with
   |none=>simp[vsD,h1,h2] at h
   |some p=>
    obtain⟨es,g2⟩:=p
    simp[vsD,h1,h2] at h
    obtain⟨rfl,rfl⟩:=h
    obtain⟨k1,k2⟩:=SH ok h2
    grind
def QC(sz:Nat):Lad->Bool
 |[]=>ζ
 |e::es=>f4 e.length sz&&QC sz es
theorem LB{sz:Nat}:∀{els:Lad},QC sz els=ζ->∀e∈els,e.length=sz
 |e::es,h,e',hm=>by
  simp only[QC,hV] at h
  rcases Yh.1 hm with rfl|hm
  .simp_all
  exact LB h.2 e' hm
theorem FF{by_:Nat}{len:Nat}{parts:List (Nat×Operand)}[ht:dB P t e sz by_](hlen:len=parts.length)(hv:vs.length=parts.length)(hi:parts.map (·.1)=v0 len)(he:vsD vs=ς (els,g))(hs:QC sz els=ζ)(h24:len*sz<=16777216):
 AWN P ⟨d,.buildSlice t len parts.toArray,ty,ps,af,gd⟩ ((parts.map (·.2)).zip (vs.map T.v)) [] (.v (.c (.w l len))) [(l,.row e sz els g ζ)]:=
 ya λcx E a w ok hn _ hl=>by
  subst hlen
  have hsz:=LB hs
  obtain⟨ii,zz,i1,i2,i3,i4,i5⟩:=ht.i
  obtain⟨m1,m2⟩:=SH ok he
  have hval:∀(i:Nat) (v:V),vs[i]?=ς v->∃p,parts[i]?=ς p/\cvV E w v (a.eval p.2):=by
   intro i v hi
   have hlt:i<vs.length:=(Yc.1 hi).1
   have hp:i<parts.length:=by omega
   refine⟨parts[i],Yb hp,hn parts[i].2 (.v v) ?_⟩
   refine Yd (i:=i) ?_
   rw[List.getElem?_zip_eq_some]
   simp[hi,hp]
  have hcell:∀p∈parts,(a.eval p.2).cells.size=sz:=by
   intro p hp
   obtain⟨i,hi⟩:=Yn hp
   have hlt:i<parts.length:=(Yc.1 hi).1
   obtain⟨v,hv'⟩:∃v,vs[i]?=ς v:=⟨_,Yb oaa⟩
   obtain⟨e',he'⟩:∃e',els[i]?=ς e':=⟨_,Yb oaa⟩
   obtain⟨v2,g',n1,n2,n3⟩:=m2 i e' he'
   rw[hv'] at n1;cases n1
   obtain⟨p',q1,q2⟩:=hval i v hv'
   rw[hi] at q1;cases q1
   rw[(SF ok n2 q2).1];exact hsz e' (Yd he')
  have hparts:(parts.map λp=>(p.1,a.eval p.2))=(((parts.map λp=>a.eval p.2).zipIdx 0).map λx=>(x.2,x.1)):=by
   apply List.ext_getElem?
   intro i
   simp only[YM,List.getElem?_zipIdx]
   cases hp:parts[i]? with
   |none=>simp
   |some p=>
    have:(parts.map (·.1))[i]?=ς p.1:=by simp[hp]
    grind
  obtain⟨r,f1,f2,f3⟩:=Go.Great.fill_dense (s:=sz) ht.p (parts.map λp=>a.eval p.2) 0 ((Array.range (parts.length*sz)).map ((if parts.length*sz=0 then #[] else zz.cells)[· %(if parts.length*sz=0 then #[] else zz.cells).size]!))
   (by grind) (by simp)
  refine⟨.slice (ς ⟨w.heap.size,0,ξ⟩) parts.length parts.length,.cells r e,parts.length,?_,⟨_,_,xf _ _ _ _,rfl⟩,?_⟩
  .have hroom:¬parts.length*ii.size>2^24:=by rw[i2];omega
   by_cases h0:parts.length*sz=0
   .simp only[execOp,Instr.buildSlice]
    simp[underlying,ht.u,eA i1,i2,h0,newRow]
    simp_all
   simp only[execOp,Instr.buildSlice]
   have hroom':¬16777216<parts.length*sz:=by omega
   simp only[h0,if_false] at f1
   rw[<-hparts] at f1
   simp[underlying,ht.u,eA i1,i2,h0,hroom',newRow,zeroValue,typeInfo,i1,i4,f1]
  refine⟨_,_,r,xf _ _ _ _,oD _ _,by simp[f2],by omega,?_,hsz,?_,λ_=>va ok _ _,λh=>by cases h⟩
  .have:=ht.p
   have:parts.length<=parts.length*sz:=Nat.le_mul_of_pos_right _ this
   unfold maxLen;omega
  refine tN hsz λi e' hi'=>lO λj xd hj=>?_
  obtain⟨v,g',n1,n2,n3⟩:=m2 i e' hi'
  obtain⟨p,q1,q2⟩:=hval i v n1
  obtain⟨r1,r2,r3⟩:=SF ok n2 q2
  obtain⟨c,s1,s2⟩:=r3 j xd hj
  have hjs:j<sz:=by rw[<-hsz e' (Yd hi')];exact(Yc.1 hj).1
  have hil:i<parts.length:=(Yc.1 q1).1
  refine⟨c,?_,?_⟩
  .rw[d7 (oD w _),f3]
   have hlt:0+i*sz+j<(0+(parts.map λp=>a.eval p.2).length)*sz:=by
    simp only[YA,Yl]
    calc i*sz+j<i*sz+sz:=by omega
     _=(i+1)*sz:=by grind
     _<=parts.length*sz:=YI _ hil
   rw[if_pos ⟨by simp,hlt⟩]
   have hdiv:(0+i*sz+j)/sz=i:=by
    rw[Yl,YZ,Nat.add_mul_div_right _ _ ht.p,Nat.div_eq_of_lt hjs];omega
   have hmod:(0+i*sz+j)%sz=j:=by
    rw[Yl,YZ,Y1];exact Y0 hjs
   simp_all
  have h9:=mj ok s2 n3
  exact cm (λb hb=>Below.heap_alloc _ _ b (ok.hb hb)) (λb hb=>(Fj ok hl (.cells r e) parts.length).H hb) _ _ h9
theorem WN{by_:Nat}{zd:List D}{k k':IntKind}{c:Int}[ht:dB P t e sz by_][he:TyE P e zd](hc:n<=c)(hb:(by_:Int)*c<=281474976710656)(h63:c<=9223372036854775807):
 AWN P ⟨d,.makeSlice t x y,ty,ps,af,gd⟩ [(x,.v (.c (.d g (.i k n)))),(y,.v (.c (.d g' (.i k' c))))] [] (.v (.c (.w l n))) [(l,.row e sz (Yo n zd) ζ ζ)]:=
 ya λcx E a w ok hn _ hl=>by
  obtain⟨ii,zz,i1,i2,i3,i4,i5⟩:=ht.i
  obtain⟨i',z',j1,j2,j3⟩:=he.h
  rw[i1] at j1;cases j1
  rw[i4] at j2;cases j2
  have h1:=gz (hn x _ (.head _))
  have h2:=gz (hn y _ (.tail _ (.head _)))
  have hzl:=(xt (w:=w) (F:=λ_=>True) j3).1
  have hzd:zd.length=sz:=by rw[<-hzl];simpa using i5
  have hsz:∀x∈Yo n zd,x.length=sz:=λx hx=>by simp_all
  refine⟨.slice (ς ⟨w.heap.size,0,ξ⟩) n c.toNat,.cells (madeCells zz.cells (c.toNat*sz)) e,c.toNat,?_,⟨_,_,xf _ _ _ _,rfl⟩,?_⟩
  .have:=run_make (P:=P) w t e ii zz ht.u i1 i4 k k' n c oaa hc (by simp_all) h63
   simp[execOp,h1,h2,this,i2]
  refine⟨_,_,_,xf _ _ _ _,oD _ _,by simp[size_madeCells],by simp;omega,by unfold maxLen;omega,hsz,?_,λ_=>va ok _ _,λh=>by cases h⟩
  refine tN hsz λi e' hi'=>lO λj xd hj=>?_
  have hin:i<n:=by simpa using(Yc.1 hi').1
  have he':e'=zd:=List.eq_of_mem_replicate (Yd hi')
  subst he'
  obtain⟨u,u1,u2⟩:=(xt (w:=w.alloc (.cells (madeCells zz.cells (c.toNat*sz)) e)) (F:=(E.new l w.heap.size c.toNat).H ζ) j3).2 j xd hj
  have hjs:j<sz:=by rw[<-hzd];exact(Yc.1 hj).1
  refine⟨u,?_,u2⟩
  rw[d7 (oD w _)]
  have hlt:0+i*sz+j<c.toNat*sz:=by
   calc 0+i*sz+j<i*sz+sz:=by omega
    _=(i+1)*sz:=by grind
    _<=c.toNat*sz:=YI _ oaa
  have hmod:(0+i*sz+j)%zz.cells.size=j:=by
   rw[i5,Yl,YZ,Y1];exact Y0 hjs
  have hzj:zz.cells[j]?=ς u:=by simpa using u1
  have hzs:j<zz.cells.size:=by rw[i5];exact hjs
  simp only[madeCells,Array.getElem?_map,Array.getElem?_range,if_pos hlt,Option.map_some,hmod]
  simp_all
end
class TyN(P:Program)(t:TypeId)(n:outParam Nat):Prop where
 n:∃i,P.info? t=ς i/\i.size=n
theorem dw(w:World)(b k:Nat)(cs:Array Value)(h:k≠b):(w.setRow b cs).heap[k]?=w.heap[k]?:=by
 simp only[World.setRow,Array.getElem?_modify]
 grind
theorem gL{b:Nat}{arr:Array Value}(cs:Array Value)(h:w.heap[b]?=ς (.cells arr t (0,0))):(w.setRow b cs).heap[b]?=ς (.cells cs t (0,0)):=
 setRow_heap w b arr cs t (0,0) h
section
variable{P:Program}{N:Nat}{d:Option Tmp}{ty:TypeId}{ps:String}{af:Array Edge}{gd:Option (Nat×Bool)}{x y z:Operand}{st:St}
theorem jt{cx:Cx}{o b c:Nat}{cs:Array Value}(ok:da cx E w)(hr:E.r o=ς (b,c))(hF:¬E.F b):jV E w E (w.setRow b cs):=
 ⟨λ_ _ h=>h,λ_ _ h=>h,λg k hk=>dw w b k cs (λe=>by
  subst e
  cases g
  .exact hF hk
  .exact hF (ok.gf _ hk)),λl k hk=>⟨hk,dw w b k cs (λe=>by subst e;exact(ok.sf.tb l k hk).2.2.1 o c hr)⟩,
  λk hk=>⟨hk,.of_eq (dw w b k cs (λe=>by subst e;exact(ok.sf.zb k hk).2.2.1 o c hr))⟩,rfl⟩
theorem Ao.setRow{cx:Cx}{o b c:Nat}{cs:Array Value}(s:Ao cx E w)(hr:E.r o=ς (b,c)):Ao cx E (w.setRow b cs):=by
 have hsz:(w.setRow b cs).heap.size=w.heap.size:=by simp
 refine⟨λl k h=>?_,s.tt,λk h=>?_,λk h=>?_,s.ze⟩
 .obtain⟨h1,h2,h3,h4⟩:=s.tb l k h
  exact⟨by omega,h2,h3,h4.of_eq (dw w b k cs (λe=>by simp_all))⟩
 .obtain⟨h1,h2,h3,h4⟩:=s.zc k h
  exact⟨by simp_all,h2,h3,h4.of_eq (dw w b k cs (λe=>by simp_all))⟩
 obtain⟨h1,h2,h3,h4⟩:=s.zc k h
 exact(s.zs k h).trans (.of_eq (dw w b k cs (λe=>by simp_all)))
theorem tO{cx:Cx}{o b c:Nat}{ob':Ob}{cs:Array Value}(hR:Rel N cx E st a w)(hr:E.r o=ς (b,c))(hF:¬E.F b)(h':cB E (w.setRow b cs) o ob'):Rel N cx E ⟨st.sl,(o,ob')::st.ob,st.nx⟩ a (w.setRow b cs):=by
 have hk:=jt (cs:=cs) (w:=w) hR.ok hr hF
 have hsz:(w.setRow b cs).heap.size=w.heap.size:=by simp
 refine⟨⟨λk hk=>by rw[hsz];exact hR.ok.fb k hk,hR.ok.gf,hR.ok.gn,λo b c h=>by rw[hsz];exact hR.ok.rb o b c h,hR.ok.inj,hR.ok.os,hR.ok.tape,hR.ok.output,by rw[hsz];exact hR.ok.size,λk hk hW=>?_,hR.ok.pin,hR.ok.ff,λk hg hk'=>(hR.ok.gc k hg hk').of_eq (dw w b k cs (λe=>hF (by simp_all))),hR.ok.sf.setRow hr⟩,hR.dom,λl ob hl=>?_,λk=>jM hk (hR.sl k),hR.dfr,hR.size,hR.td⟩
 .rw[dw _ _ _ _ (λe=>by
   subst e
   rcases(hR.ok.rb o k c hr).2 with h|h
   .omega
   simp_all)]
  exact hR.ok.block k hk hW
 by_cases ho:o=l
 .subst ho;rw[b9] at hl;simp_all
 rw[bG _ _ ho] at hl
 exact f8 hk (λb' c' h=>dw _ _ _ _ (λe=>ho (by subst e;exact hR.ok.inj _ _ _ _ _ hr h))) (λ_ _ _ h=>h) (hR.obs l ob hl)
theorem rG{b:Nat}{arr:Array Value}[ht:TyN P t n](hu:u.cells.size=n)(h1:∀c∈u.cells.toList,c.oneCell'=ζ)(hh:w.heap[b]?=ς (.cells arr vt (0,0)))(hk:k+n<=arr.size):
 (Instr.storeAt t (.pointer (ς ⟨b,k,ξ⟩)) u).run P w= .ok () (w.setRow b (arr.toList.take k++u.cells.toList++arr.toList.drop (k+n)).toArray):=by
 obtain⟨i,hi,hn⟩:=ht.n
 have:=run_storeCells_at (P:=P) b k vt u.cells.toList 0 arr w hh (by simp_all) h1
 simp only[YN,Array.length_toList,hu] at this
 simp[Instr.storeAt,Instr.sureAddr,storeVar,eA hi,hn,hu,this]
theorem OX{v:V}{ns:List C}(h:vcs v=ς ns)(hs:ns.all C.sto=ζ)(hv:cvV E w v u):∀c∈u.cells.toList,c.oneCell'=true:=by
 have hc:=GE h hv
 have key:∀(ns:List C) (us:Lae),ns.all C.sto=ζ->CV E w ns us->∀c∈us,c.oneCell'=true:=by
  intro ns
  induction ns with
  |nil=>intro us _ hc;cases us with
   |nil=>simp
   |cons _ _=>exact hc.elim
  |cons n ns ih=>
   intro us hs hc
   cases us with
   |nil=>exact hc.elim
   |cons u us=>
    simp only[Yy,hV] at hs
    intro c hm
    rcases Yh.1 hm with rfl|hm
    .exact(Kx hs.1 hc.1).1
    exact ih us hs.2 hc.2 c hm
 grind
theorem lB{us vs:Lae}(hn:us.length=n)(hk:k+n<=vs.length)(i:Nat):(vs.take k++us++vs.drop (k+n))[i]?=if k<=i/\i<k+us.length then us[i-k]? else vs[i]?:=by
 subst hn
 have hk':(vs.take k).length=k:=by simp;omega
 grind
theorem NU{o:Nat}{cs' ns:List C}{v:V}[ht:TyN P t n](hx:opT st.sl x= .v (.c (.p o k)))(hy:opT st.sl y= .v v)(ho:go st.ob o=ς (.var vt cs))(hv:vcs v=ς ns)(hn:f4 ns.length n=ζ)(hst:ns.all C.sto=ζ)(hs:qI k ns cs=ς cs'):AWO P N ⟨ξ,.store t x y,ty,ps,af,gd⟩ st ⟨st.sl,(o,.var vt cs')::st.ob,st.nx⟩:=by
 intro cx E a w hR
 have h1:=hR.op x;rw[hx] at h1
 have h2:=hR.op y;rw[hy] at h2
 obtain⟨b,c,hr,hu⟩:=h1
 obtain⟨b',c',arr,hr',hh,hcv,hF⟩:=hR.obs o _ ho
 rw[hr] at hr';cases hr'
 have hvc:=GE hv h2
 have hl1:=iU hvc
 have hl2:=iU hcv
 have hnn:=Yf hn
 have hle:=(rF hs).2
 have hsz:(a.eval y).cells.size=n:=by simp at hl1;omega
 have hrun:=rG (P:=P) (t:=t) (n:=n) (k:=k) hsz (OX hv hst h2) hh (by simp_all)
 unfold Oper.wp
 simp only[execOp,hu,Sem.run_bind,hrun,Result.andThen_ok,Sem.run_pure,Oper.upon_skip,Act.put]
 refine⟨E,tO hR hr hF ⟨b,c,_,hr,gL _ hh,?_,hF⟩⟩
 have hk:=jt (cs:=(arr.toList.take k++(a.eval y).cells.toList++arr.toList.drop (k+n)).toArray) (w:=w) hR.ok hr hF
 refine pK hk (zn hs hvc hcv ?_ λi=>?_)
 .grind
 rw[show(arr.toList.take k++(a.eval y).cells.toList++arr.toList.drop (k+n)).toArray.toList=arr.toList.take k++(a.eval y).cells.toList++arr.toList.drop (k+n) from rfl]
 exact lB oaa oaa i
theorem ew{w:World}{F:Nat->Prop}:∀{xs:Lad} {b k:Nat},rdLL w F xs b k↔rdL w F xs.flatten b k
 |[],b,k=>by rfl
 |e::es,b,k=>by
  rw[rdLL,ew,List.flatten_cons]
  constructor
  .rintro⟨h1,h2⟩
   refine lO λj d hj=>?_
   by_cases hje:j<e.length
   .rw[Yt hje] at hj;exact lc h1 hj
   rw[Ys oaa] at hj
   have:=lc h2 hj
   grind
  intro h
  refine⟨lO λj d hj=>?_,lO λj d hj=>?_⟩
  .have hje:j<e.length:=(Yc.1 hj).1
   exact lc h (by grind)
  have:=lc (j:=e.length+j) h (by rw[Ys oaa];simpa using hj)
  grind
theorem eX{xs:Lad}(h:∀e∈xs,e.length=sz):xs.flatten.length=xs.length*sz:=by
 rw[List.length_flatten];exact MF h
theorem NT{o i:Nat}{rt:TypeId}{el' ns:List D}{v:V}[ht:TyN P t n](hx:opT st.sl x= .v (.c (.e o sz i j)))(hy:opT st.sl y= .v v)(ho:go st.ob o=ς (.row rt sz els g ζ))(hv:vD v=ς (ns,g'))(hn:f4 ns.length n=ζ)(he:els[i]?=ς el)(hs:qI j ns el=ς el'):
 AWO P N ⟨ξ,.store t x y,ty,ps,af,gd⟩ st ⟨st.sl,(o,.row rt sz (els.set i el') (g&&g') ζ)::st.ob,st.nx⟩:=by
 intro cx E a w hR
 have h1:=hR.op x;rw[hx] at h1
 have h2:=hR.op y;rw[hy] at h2
 obtain⟨b,c,hr,hu⟩:=h1
 obtain⟨b',c',arr,hr',hh,ha,hlc,hmx,hes,hrd,hFm,_⟩:=hR.obs o _ ho
 rw[hr] at hr';cases hr'
 have hF:=hFm rfl
 obtain⟨v1,v2,v3⟩:=SF hR.ok hv h2
 have hnn:=Yf hn
 have hil:i<els.length:=(Yc.1 he).1
 have hel:el.length=sz:=hes el (Yd he)
 obtain⟨hsp,hle⟩:=rF hs
 have hel':el'.length=sz:=by rw[hsp];simp;omega
 have hbound:i*sz+j+n<=arr.size:=by
  rw[ha]
  calc i*sz+j+n<=i*sz+sz:=by omega
   _=(i+1)*sz:=by grind
   _<=c*sz:=YI _ oaa
 have hrun:=rG (P:=P) (t:=t) (n:=n) (k:=i*sz+j) oaa v2 hh hbound
 unfold Oper.wp
 simp only[execOp,hu,Sem.run_bind,hrun,Result.andThen_ok,Sem.run_pure,Oper.upon_skip,Act.put]
 have hk:=jt (cs:=(arr.toList.take (i*sz+j)++(a.eval y).cells.toList++arr.toList.drop (i*sz+j+n)).toArray) (w:=w) hR.ok hr hF
 have hes':∀e∈els.set i el',e.length=sz:=λe hm=>by
  grind
 refine⟨E,tO hR hr hF ⟨b,c,_,hr,gL _ hh,?_,by simp_all,hmx,hes',?_,λ_=>hF,λh=>by cases h⟩⟩
 .grind
 refine tN hes' λi' e' hi'=>lO λj' xd hj'=>?_
 rw[d7 (gL _ hh)]
 have hj'l:j'<sz:=by rw[<-hes' e' (Yd hi')];exact(Yc.1 hj').1
 rw[List.getElem?_toArray,lB (by simp;omega) (by simp;omega)]
 have hlen:(a.eval y).cells.toList.length=n:=by simp;omega
 rw[hlen,Yl]
 rw[List.getElem?_set] at hi'
 by_cases hii:i=i'
 .subst hii
  rw[if_pos rfl,if_pos hil] at hi'
  cases hi'
  rw[IN hs] at hj'
  by_cases hin:j<=j'/\j'<j+ns.length
  .rw[if_pos hin] at hj'
   obtain⟨u,u1,u2⟩:=v3 _ _ hj'
   refine⟨u,?_,?_⟩
   .grind
   exact cm (hk.heap _) (hk.H _) _ _ (mj hR.ok u2 (by simp))
  rw[if_neg hin] at hj'
  obtain⟨u,u1,u2⟩:=lc (oi hrd hes he) hj'
  refine⟨u,?_,?_⟩
  .rw[if_neg oaa];rw[d7 hh] at u1;simp_all
  exact cm (hk.heap _) (hk.H _) _ _ (mj hR.ok u2 (by simp_all))
 rw[if_neg hii] at hi'
 obtain⟨u,u1,u2⟩:=lc (oi hrd hes hi') hj'
 refine⟨u,?_,?_⟩
 .have hel'':j'<sz:=hj'l
  rw[if_neg ?_]
  .rw[d7 hh] at u1;simp_all
  rintro⟨k1,k2⟩
  rcases Nat.lt_or_gt_of_ne hii with h|h
  .have:(i+1)*sz<=i'*sz:=YI _ h
   grind
  have:(i'+1)*sz<=i*sz:=YI _ h
  grind
 exact cm (hk.heap _) (hk.H _) _ _ (mj hR.ok u2 (by simp_all))
end
def C.has(o:Nat):C->Bool
 | .w l _| .s l _ _ _| .p l _| .e l _ _ _| .wn l _=>f4 l o
 |_=>η
def Ac(o:Nat):List C->Bool
 |[]=>η
 |c::cs=>c.has o||Ac o cs
def V.has(o:Nat):V->Bool
 | .c x=>x.has o
 | .agg cs=>Ac o cs
def DT(o:Nat):List V->Bool
 |[]=>η
 |c::cs=>c.has o||DT o cs
def T.has(o:Nat):T->Bool
 | .v x=>x.has o
 | .tup ts=>DT o ts
 | .any=>η
def mf(o:Nat):Lab->Option Lab
 |[]=>ς []
 |(k,t)::r=>match mf o r,t.has o with
  |some r',ζ=>ς ((k,.any)::r')
  |some r',η=>ς ((k,t)::r')
  |none,_=>ξ
def Ad(o:Nat):List C->Option (List C)
 |[]=>ς []
 |c::r=>match Ad o r,c.has o with
  |some r',ζ=>ς (.any::r')
  |some r',η=>ς (c::r')
  |none,_=>ξ
def kt(o:Nat):Laa->Option Laa
 |[]=>ς []
 |(k,.var t cs)::r=>match kt o r,Ad o cs with
  |some r',ς cs'=>ς ((k,.var t cs')::r')
  |_,_=>ξ
 |(k,.row t sz els g m)::r=>match kt o r with
  |some r'=>ς ((k,.row t sz els g m)::r')
  |none=>ξ
 |(k,.rown t sz els g)::r=>match kt o r with
  |some r'=>ς ((k,.rown t sz els g)::r')
  |none=>ξ
 |(k,.abs l y)::r=>match kt o r with
  |some r'=>ς ((k,.abs l y)::r')
  |none=>ξ
theorem uY{o:Nat}:∀{sl sl':Lab},mf o sl=ς sl'->∀k,gt sl' k= .any\/(gt sl' k=gt sl k/\(gt sl k).has o=η)
 |[],sl',h,k=>by simp[mf] at h;subst h;exact .inl rfl
 |(j,t)::r,sl',h,k=>by
  simp only[mf] at h
  cases h1:mf o r with
  |none=>simp_all
  |some r'=>
   have ih:=uY h1 k
   cases h2:t.has o with
   |true=>
    simp[h1,h2] at h;subst h
    by_cases hj:j=k
    .subst hj;rw[cW];simp_all
    rw[cy _ _ hj,cy _ _ hj];exact ih
   |false=>
    simp[h1,h2] at h;subst h
    by_cases hj:j=k
    .subst hj;rw[cW,cW];simp_all
    rw[cy _ _ hj,cy _ _ hj];exact ih
def Env.upd(E:Env)(o b c:Nat):Env:={E with r:=λl=>if l=o then ς (b,c) else E.r l}
structure mw(o:Nat)(E:Env)(w:World)(E':Env)(w':World):Prop where
 r:∀l x,l≠o->E.r l=ς x->E'.r l=ς x
 H:∀g b,E.H g b->E'.H g b
 heap:∀g b,E.H g b->w'.heap[b]?=w.heap[b]?
 T:∀l b,E.T l b->E'.T l b/\w'.heap[b]?=w.heap[b]?
 Z:∀b,E.Z b->E'.Z b/\pM w w' b
 n:∀l,l≠o->(E'.n l↔E.n l)
theorem Ao.turn{cx:Cx}(s:Ao cx E w){o b c:Nat}(h0:E.r o=ς (b,c))(hT:E'.T=E.T)(hZ:E'.Z=E.Z)(hF:∀b,E'.F b->E.F b\/w.heap.size<=b)(hr:∀o b c,E'.r o=ς (b,c)->(∃o' c',E.r o'=ς (b,c'))\/w.heap.size<=b)(hs:w.heap.size<=w'.heap.size)(hh:∀k,k<w.heap.size->k≠b->w'.heap[k]?=w.heap[k]?):Ao cx E' w':=by
 refine⟨λl k h=>?_,λl l' k h h'=>?_,λk h=>?_,λk h=>?_,λk h=>s.ze k (hZ▸h)⟩
 .rw[hT] at h
  obtain⟨⟨h1,h2⟩,h3,h4,h5⟩:=s.tb l k h
  refine⟨⟨by omega,h2⟩,λhf=>?_,λo c ho=>?_,h5.of_eq (hh k h1 (λe=>by simp_all))⟩
  .grind
  grind
 .rw[hT] at h h';exact s.tt l l' k h h'
 .obtain⟨⟨h1,h2,h2'⟩,h3,h4,h5⟩:=s.zc k h
  refine⟨⟨h1,by omega,h2'⟩,λhf=>?_,λo c ho=>?_,h5.of_eq (hh k h2 (λe=>by simp_all))⟩
  .grind
  grind
 obtain⟨⟨h1,h2,h2'⟩,h3,h4,h5⟩:=s.zc k h
 exact(s.zs k h).trans (.of_eq (hh k h2 (λe=>by simp_all)))
theorem iN{o:Nat}(h:f4 l o=η):l≠o:=λe=>by simp_all
theorem E7{o:Nat}(x:mw o E w E' w'):∀{c:C} {u:Value},c.has o=η->cvC E w c u->cvC E' w' c u
 | .d g d,u,_,h=>cm (x.heap g) (x.H g) d u h
 | .w l n,u,hl,⟨b,c,h,hu⟩=>⟨b,c,x.r _ _ (iN hl) h,hu⟩
 | .s l sz off len,u,hl,⟨A,c,b,k,h,hu⟩=>⟨A,c,b,k,x.r _ _ (iN hl) h,hu⟩
 | .p l k,u,hl,⟨b,c,h,hu⟩=>⟨b,c,x.r _ _ (iN hl) h,hu⟩
 | .e l sz i j,u,hl,⟨b,c,h,hu⟩=>⟨b,c,x.r _ _ (iN hl) h,hu⟩
 | .q g y j,u,_,⟨b,k,hu,hb,h⟩=>⟨b,k,hu,x.H g b hb,rdL_mono (x.heap g) (x.H g) y b k hb h⟩
 | .fn f,u,_,h=>h
 | .nil,u,_,h=>h
 | .any,u,_,_=>trivial
 | .r l d,u,_,h=>cm (λb hb=>(x.T l b hb).2) (λb hb=>(x.T l b hb).1) d u h
 | .z d,u,_,h=>sK (λb hb=>(x.Z b hb).2) (λb hb=>(x.Z b hb).1) d u h
 | .zq y j,u,_,⟨b,k,hu,hb,h⟩=>⟨b,k,hu,(x.Z b hb).1,rsL_mono (λb hb=>(x.Z b hb).2) (λb hb=>(x.Z b hb).1) y b k hb h⟩
 | .wn l n,u,hl,.inl ⟨h1,h2⟩=>.inl ⟨(x.n l (iN hl)).2 h1,h2⟩
 | .wn l n,u,hl,.inr ⟨h1,b,c,h,hu⟩=>.inr ⟨λk=>h1 ((x.n l (iN hl)).1 k),b,c,x.r _ _ (iN hl) h,hu⟩
theorem Jf{o:Nat}{E E':Env}{w w':World}(x:mw o E w E' w'):∀{cs:List C} {us:Lae},Ac o cs=η->CV E w cs us->CV E' w' cs us
 |[],[],_,_=>trivial
 |c::cs,u::us,hl,h=>by
  simp only[Ac,Yp] at hl
  exact⟨E7 x hl.1 h.1,Jf x hl.2 h.2⟩
 |[],_::_,_,h=>h.elim
 |_::_,[],_,h=>h.elim
theorem KZ{o:Nat}(x:mw o E w E' w'){v:V}(hl:v.has o=η)(h:cvV E w v u):cvV E' w' v u:=by
 cases v with
 |c c=>exact E7 x hl h
 |agg cs=>obtain⟨arr,hu,h⟩:=h;exact⟨arr,hu,Jf x hl h⟩
theorem O3{o:Nat}{E E':Env}{w w':World}(x:mw o E w E' w'):∀{cs:List V} {us:Lae},DT o cs=η->VV E w cs us->VV E' w' cs us
 |[],[],_,_=>trivial
 |c::cs,u::us,hl,h=>by
  simp only[DT,Yp] at hl
  exact⟨KZ x hl.1 h.1,O3 x hl.2 h.2⟩
 |[],_::_,_,h=>h.elim
 |_::_,[],_,h=>h.elim
theorem E8{o:Nat}(x:mw o E w E' w'){t:T}(hl:t.has o=η)(h:cvT E w t u):cvT E' w' t u:=by
 cases t with
 |v v=>exact KZ x hl h
 |tup ts=>obtain⟨arr,hu,h⟩:=h;exact⟨arr,hu,O3 x hl h⟩
 |any=>trivial
theorem wr{o:Nat}{E E':Env}{w w':World}(x:mw o E w E' w'):∀{cs cs':List C} {us:Lae},Ad o cs=ς cs'->CV E w cs us->CV E' w' cs' us
 |[],cs',us,h,hc=>by simp[Ad] at h;subst h;cases us with
  |nil=>trivial
  |cons _ _=>exact hc.elim
 |c::cs,cs',us,h,hc=>by
  cases us with
  |nil=>exact hc.elim
  |cons u us=>
   simp only[Ad] at h
   cases h1:Ad o cs with
   |none=>simp_all
   |some r=>
    cases h2:c.has o with
    |true=>simp[h1,h2] at h;subst h;exact⟨θ,wr x h1 hc.2⟩
    |false=>simp[h1,h2] at h;subst h;exact⟨E7 x h2 hc.1,wr x h1 hc.2⟩
theorem sx{o:Nat}:∀{ob ob':Laa},kt o ob=ς ob'->∀{l:Nat} {x:Ob},go ob' l=ς x->
 (∃t cs cs',go ob l=ς (.var t cs)/\Ad o cs=ς cs'/\x= .var t cs')\/(∃t sz els g m,go ob l=ς (.row t sz els g m)/\x= .row t sz els g m)\/(∃t sz els g,go ob l=ς (.rown t sz els g)/\x= .rown t sz els g)\/(∃k y,go ob l=ς (.abs k y)/\x= .abs k y)
 |[],ob',h,l,x,hl=>by simp[kt] at h;subst h;cases hl
 |(k,.var t cs)::r,ob',h,l,x,hl=>by
  simp only[kt] at h
  cases h1:kt o r with
  |none=>simp_all
  |some r'=>
   cases h2:Ad o cs with
   |none=>simp_all
   |some cs'=>
    simp[h1,h2] at h;subst h
    by_cases hk:k=l
    .subst hk;rw[b9] at hl ⊢;grind
    rw[bG _ _ hk] at hl ⊢;exact sx h1 hl
 |(k,.row t sz els g m)::r,ob',h,l,x,hl=>by
  simp only[kt] at h
  cases h1:kt o r with
  |none=>simp_all
  |some r'=>
   simp[h1] at h;subst h
   by_cases hk:k=l
   .subst hk;rw[b9] at hl ⊢;grind
   rw[bG _ _ hk] at hl ⊢;exact sx h1 hl
 |(k,.rown t sz els g)::r,ob',h,l,x,hl=>by
  simp only[kt] at h
  cases h1:kt o r with
  |none=>simp_all
  |some r'=>
   simp[h1] at h;subst h
   by_cases hk:k=l
   .subst hk;rw[b9] at hl ⊢;grind
   rw[bG _ _ hk] at hl ⊢;exact sx h1 hl
 |(k,.abs j y)::r,ob',h,l,x,hl=>by
  simp only[kt] at h
  cases h1:kt o r with
  |none=>simp_all
  |some r'=>
   simp[h1] at h;subst h
   by_cases hk:k=l
   .subst hk;rw[b9] at hl ⊢;grind
   rw[bG _ _ hk] at hl ⊢;exact sx h1 hl
section
variable{P:Program}{N:Nat}{d:Tmp}{ty:TypeId}{ps:String}{af:Array Edge}{gd:Option (Nat×Bool)}{x y z:Operand}{st:St}
inductive Src (ob:Laa):C->Lad->Bool->Prop
 |d {g:Bool} {ys:Lad}:Src ob (.d g (.l ys)) ys g
 |nil:Src ob .nil [] ζ
 |w {o n:Nat} {t sz:Nat} {els:Lad} {g m:Bool} (h:go ob o=ς (.row t sz els g m)) (hn:els.length=n):Src ob (.w o n) els g
 |s {o off len:Nat} {t sz:Nat} {els:Lad} {g m:Bool} (h:go ob o=ς (.row t sz els g m)) (hn:off+len<=els.length):Src ob (.s o sz off len) ((els.drop off).take len) g
 |wn {o n:Nat} {t sz:Nat} {els:Lad} {g:Bool} (h:go ob o=ς (.rown t sz els g)) (hn:els.length=n):Src ob (.wn o n) els g
theorem zg(hob:∀l x,go nob l=ς x->cB E w l x){c:C}(h:Src nob c ys g)(hu:cvC E w c u):
 ∃A k,u= .slice A ys.length k/\ys.length<=k/\(ys=[]\/∃b off,A=ς ⟨b,off,ξ⟩/\rdLL w (E.H g) ys b off):=by
 cases h with
 |d=>
  simp only[cvC,rdD] at hu
  grind
 |nil=>have:u= .slice ξ 0 0:=hu;simp_all
 |w h hn=>
  obtain⟨b,c,hr,rfl⟩:=hu
  obtain⟨b',c',arr,hr',hh,ha,hlc,hmx,hes,hrd,_⟩:=hob _ _ h
  rw[hr] at hr';cases hr'
  exact⟨_,_,by rw[hn],hlc,.inr ⟨b,0,rfl,hrd⟩⟩
 |s h hn=>
  rename_i o off len t sz els m
  obtain⟨A,c,b,k,hr,rfl,hlc',_,hA⟩:=hu
  obtain⟨b',c',arr,hr',hh,ha,hlc,hmx,hes,hrd,_⟩:=hob _ _ h
  rw[hr] at hr';cases hr'
  have hl:((els.drop off).take len).length=len:=by simp;omega
  refine⟨A,c,by rw[hl],by omega,?_⟩
  rcases hA with h0|h0
  .exact .inl (YD oaa)
  right;exact⟨b,off*sz,h0,by simpa using nY len (sJ hrd hes off)⟩
 |wn h hn=>
  rcases hu with⟨h0,rfl,rfl⟩|⟨h0,b,c,hr,rfl⟩
  .simp_all
  rcases hob _ _ h with⟨h1,_⟩|⟨_,b',c',arr,hr',hh,ha,hlc,hmx,hes,hrd,_⟩
  .simp_all
  rw[hr] at hr';cases hr'
  exact⟨_,_,by rw[hn],hlc,.inr ⟨b,0,rfl,hrd⟩⟩
theorem Kw{cx:Cx}(hR:Rel N cx E st a w){c:C}(h:Src st.ob c ys g)(hu:cvC E w c u):
 ∃A k,u= .slice A ys.length k/\ys.length<=k/\(ys=[]\/∃b off,A=ς ⟨b,off,ξ⟩/\rdLL w (E.H g) ys b off):=
 zg (λl x h=>hR.obs l x h) h hu
theorem qh{base:Nat}{ty e:TypeId}{i:TypeInfo}{size:Nat}(w:World)(ht:P.underlying t=ς (.slice e))(hi:P.info? e=ς i){v:Value}{xs:Lae}(hown:w.ownsRow base e size v n xs)(c:Nat):(Builtin.append_ #[t,t] ty #[v,.slice ξ 0 c]).run P w= .ok v w:=by
 rcases hown.2 with⟨rfl,rfl⟩|⟨g,cap,cur,rfl,_,_,hnc,_⟩
 .simp[Builtin.append_,run_underlying ht,sizeOf,typeInfo,hi,Builtin.lenOf,Builtin.firstCells]
 simp[Builtin.append_,run_underlying ht,sizeOf,typeInfo,hi,Builtin.lenOf,Builtin.firstCells,hnc,storeCells]
theorem qf{F:Nat->Prop}{e:List D}{b:Nat}(h:rdL w F e b k):∃us:Lae,us.length=e.length/\(∀(j:Nat) (u:Value),us[j]?=ς u->w.cell? ((⟨b,k,ξ⟩:Addr).add j)=ς u)/\
 (∀u∈us,u.oneCell'=ζ)/\∀(j:Nat) (xd:D),e[j]?=ς xd->∃u,us[j]?=ς u/\rdD w F xd u:=by
 obtain⟨us,h1,h2,h3⟩:=yK h
 refine⟨us,h1,λj u hj=>by rw[rK];simp_all,λu hu=>?_,h3⟩
 obtain⟨j,hj⟩:=Yn hu
 have hjl:j<us.length:=(Yc.1 hj).1
 obtain⟨v,k1,k2⟩:=h3 j e[j] (Yb oaa)
 rw[hj] at k1;cases k1
 exact tM k2
theorem z7{cx:Cx}(hR:Rel N cx E st a w){by_ o:Nat}{gy:Bool}{c:C}[ht:dB P t e sz by_](hrv:rsp o=η)(hd:d<N){b cc:Nat}{arr:Array Value}(hr:E.r o=ς (b,cc))(hu:a.eval x= .slice (ς ⟨b,0,ξ⟩) n cc)(hh:w.heap[b]?=ς (.cells arr e (0,0)))(ha:arr.size=cc*sz)(hlc:els.length<=cc)(hmx:cc<=maxLen)(hes:∀e∈els,e.length=sz)(hrd:rdLL w (E.H g) els b 0)(hF:¬E.F b)(hy:opT st.sl y= .v (.c c))(hs:Src st.ob c ys gy)(hk:mf o st.sl=ς sl')(hkb:kt o st.ob=ς ob')(hn:els.length=n)(hsz:∀e∈ys,e.length=sz)(hb:(n+ys.length)*by_<=140737488355328)(h63:n+ys.length<=9223372036854775807):
 Oper.wp P ⟨ς d,.call ⟨.builtin .append,#[x,y],#[t,t]⟩,ty,ps,af,gd⟩ a w (λa' w'=>∃E',Rel N cx E' ⟨(d,.v (.c (.w o (n+ys.length))))::sl',(o,.row e sz (els++ys) (g&&gy) ζ)::ob',st.nx⟩ a' w') (λ_ _ _=>False):=by
 have h2:=hR.op y;rw[hy] at h2
 obtain⟨A,k,hv,hyk,hA⟩:=Kw hR hs h2
 obtain⟨ii,zz,i1,i2,i3,i4,i5⟩:=ht.i
 have hbl:=(hR.ok.rb o b cc hr)
 have hown:w.ownsRow 0 e sz (.slice (ς ⟨b,0,ξ⟩) n cc) n (arr.toList.take (n*sz)):=
  ⟨by simp_all,.inr ⟨b,cc,arr,rfl,Yu _,hh,by omega,hmx,ha,rfl⟩⟩
 have hsrc:∃news:Lae,news.length=ys.length*sz/\(∀u∈news,u.oneCell'=ζ)/\(∀(j:Nat) (xd:D),ys.flatten[j]?=ς xd->∃u,news[j]?=ς u/\rdD w (E.H gy) xd u)/\
  ∃v' w',(Builtin.append_ #[t,t] ty #[.slice (ς ⟨b,0,ξ⟩) n cc,.slice A ys.length k]).run P w= .ok v' w'/\w'.ownsRow 0 e sz v' (n+ys.length) (arr.toList.take (n*sz)++news)/\w.grownBy w' (ς b)/\v'≠.slice ξ 0 0/\(v'.ownBlock=ς b\/v'.ownBlock=ς w.heap.size):=by
  have hgood:∀ad,A=ς ad->∀news:Lae,news.length=ys.length*sz->(∀(j:Nat) (u:Value),news[j]?=ς u->w.cell? (ad.add j)=ς u)->(∀u∈news,u.oneCell'=ζ)->
   ∃v' w',(Builtin.append_ #[t,t] ty #[.slice (ς ⟨b,0,ξ⟩) n cc,.slice A ys.length k]).run P w= .ok v' w'/\w'.ownsRow 0 e sz v' (n+ys.length) (arr.toList.take (n*sz)++news)/\w.grownBy w' (ς b)/\v'≠.slice ξ 0 0/\(v'.ownBlock=ς b\/v'.ownBlock=ς w.heap.size):=by
   intro ad hAd news n1 n2 n3
   obtain⟨v',w',r1,r2,r3,r4,r5⟩:=run_append_own_at (P:=P) w 0 t ty e ii zz sz by_ ht.u i1 i4 i2 i3 i5 ht.p _ n _ hown ad ys.length k news n1 n2 n3 (by unfold maxLen;omega) hb (Yu _)
   exact⟨v',w',by simp_all,r2,r3,(λh=>by simp_all),r5⟩
  rcases hA with h0|⟨b2,off,rfl,hrd2⟩
  .subst h0
   refine⟨[],by simp,by simp,by simp,?_⟩
   cases A with
   |none=>exact⟨_,w,qh w ht.u i1 hown k,by simp_all,⟨rfl,rfl,rfl,Yj _,λ_ _ _=>rfl⟩,by simp,.inl rfl⟩
   |some ad=>simp_all
  obtain⟨us,q1,q2,q3,q4⟩:=qf (ew.1 hrd2)
  exact⟨us,by rw[q1,eX hsz],q3,q4,hgood _ rfl us (by rw[q1,eX hsz]) q2 q3⟩
 obtain⟨news,n1,n2,n3,v',w',r1,r2,r3,r4,r5⟩:=hsrc
 obtain⟨_,r2⟩:=r2
 rcases r2 with⟨rfl,_⟩|⟨bn,cap,cur,rfl,_,hhn,hcap,hcapm,hcur,htk⟩
 .simp_all
 unfold Oper.wp
 simp only[execOp,resolve,invoke,builtin,Sem.run_bind,Sem.run_pure,Result.andThen_ok,List.map_toArray,Yq,List.map_nil,hu,hv,r1,Oper.upon_value]
 have hbn:bn=b\/bn=w.heap.size:=by simpa [Value.ownBlock] using r5
 have hsame:∀k,k<w.heap.size->k≠b->w'.heap[k]?=w.heap[k]?:=λk hk hne=>r3.block k hk (λe=>hne (by injection e))
 have hnF:¬E.F bn:=by
  rcases hbn with rfl|rfl
  .exact hF
  exact λh=>by have:=hR.ok.fb _ h;omega
 have hbig:bn<w'.heap.size:=by
  rcases Yx bn w'.heap.size with h|h
  .exact h
  simp_all
 have hnew:∀l bl cl,l≠o->E.r l=ς (bl,cl)->bl≠bn:=by
  intro l bl cl hne hl e
  subst e
  rcases hbn with h|h
  .subst h;exact hne (hR.ok.inj l o _ _ _ hl hr)
  have:=(hR.ok.rb l bl cl hl).1;omega
 have hHb:∀g k,E.H g k->k≠b/\k<w.heap.size:=λg k hk=>⟨λe=>by subst e;cases g;exact hF hk;exact hF (hR.ok.gf _ hk),hR.ok.hb hk⟩
 have kb:mw o E w (E.upd o bn cap) w':=⟨λl x hne hl=>by simp only[Env.upd];simp_all,λ_ _ h=>h,λg k hk=>hsame k (hHb g k hk).2 (hHb g k hk).1,λl k hk=>⟨hk,hsame k (hR.ok.sf.tb l k hk).1.1 (λe=>by subst e;exact(hR.ok.sf.tb l k hk).2.2.1 o _ hr)⟩,λk hk=>⟨hk,.of_eq (hsame k (hR.ok.sf.zb k hk).1.2.1 (λe=>by subst e;exact(hR.ok.sf.zb k hk).2.2.1 o _ hr))⟩,λ_ _=>Iff.rfl⟩
 refine⟨E.upd o bn cap,⟨λk hk=>Yr (hR.ok.fb k hk) r3.size,hR.ok.gf,hR.ok.gn,λl bl cl hl=>?_,λl l' bl cl cl' hl hl'=>?_,by rw[r3.os];exact hR.ok.os,by rw[r3.tape];exact hR.ok.tape,by rw[r3.output];exact hR.ok.output,Nat.le_trans hR.ok.size r3.size,λk hk hW=>?_,λl xx hv hl=>by
  simp only[Env.upd] at hl
  split at hl
  .simp_all
  exact hR.ok.pin l xx hv hl,hR.ok.ff,λk hk hk'=>(hR.ok.gc k hk hk').of_eq (hsame k (hHb η k hk).2 (hHb η k hk).1),hR.ok.sf.turn hr rfl rfl (λ_ h=>.inl h) (λl bl cl hl=>by
  simp only[Env.upd] at hl
  grind) r3.size hsame⟩,λl xx hl=>?_,λl ob hl=>?_,λk=>?_,hR.dfr,by simpa [Act.put] using hR.size,hR.td⟩
 .simp only[Env.upd] at hl
  split at hl
  .rename_i elo
   cases hl
   refine⟨hbig,?_⟩
   rcases hbn with h|h
   .simp_all
   left;rw[h];exact hR.ok.size
  have:=hR.ok.rb l bl cl hl;grind
 .simp only[Env.upd] at hl hl'
  split at hl<;>split at hl'
  .omega
  .grind
  .grind
  exact hR.ok.inj l l' bl cl cl' hl hl'
 .have hkb':k≠b:=λe=>by
   grind
  rw[hsame k (by have:=hR.ok.size;omega) hkb'];exact hR.ok.block k hk hW
 .simp only[Env.upd] at hl
  split at hl
  .rename_i e;subst e;exact hR.dom _ _ hr
  exact hR.dom l _ hl
 .by_cases hlo:o=l
  .subst hlo
   rw[b9] at hl;cases hl
   have hall:∀e'∈els++ys,e'.length=sz:=λe' he'=>by
    grind
   refine⟨bn,cap,cur,by simp[Env.upd],hhn,hcur,by simp;omega,hcapm,hall,?_,λ_=>hnF,λh=>by cases h⟩
   rw[ew]
   refine lO λj xd hj=>?_
   rw[Yl,d7 hhn]
   rw[List.flatten_append] at hj
   have hfl:els.flatten.length=n*sz:=by rw[eX hes,hn]
   have hxs:(arr.toList.take (n*sz)).length=n*sz:=by simp[ha];rw[Nat.min_eq_left oaa]
   have hcurj:∀u,(arr.toList.take (n*sz)++news)[j]?=ς u->cur[j]?=ς u:=by
    intro u hu
    rw[<-htk,YK] at hu
    split at hu
    .simp_all
    cases hu
   by_cases hjn:j<n*sz
   .rw[Yt oaa] at hj
    obtain⟨u,u1,u2⟩:=lc (ew.1 hrd) hj
    rw[Yl,d7 hh] at u1
    refine⟨u,hcurj u ?_,cm (kb.heap _) (kb.H _) _ _ (mj hR.ok u2 (by simp_all))⟩
    grind
   rw[Ys oaa,hfl] at hj
   obtain⟨u,u1,u2⟩:=n3 _ _ hj
   refine⟨u,hcurj u ?_,cm (kb.heap _) (kb.H _) _ _ (mj hR.ok u2 (by simp))⟩
   grind
  rw[bG _ _ hlo] at hl
  rcases sx hkb hl with⟨t',cs,cs',k1,k2,rfl⟩|⟨t',sz',els',g',m',k1,rfl⟩|⟨t',sz',els',g',k1,rfl⟩|⟨j',y',k1,rfl⟩
  .obtain⟨bl,cl,arrl,l1,l2,l3,l4⟩:=hR.obs l _ k1
   have hne:bl≠b:=λe=>hlo (by subst e;exact hR.ok.inj _ _ _ _ _ hr l1)
   exact⟨bl,cl,arrl,kb.r _ _ (Ne.symm hlo) l1,(hsame bl (hR.ok.rb _ _ _ l1).1 hne).trans l2,wr kb k2 l3,l4⟩
  .obtain⟨bl,cl,arrl,l1,l2,l3,l4,l5,l6,l7,l8,l9⟩:=hR.obs l _ k1
   have hne:bl≠b:=λe=>hlo (by subst e;exact hR.ok.inj _ _ _ _ _ hr l1)
   have hb2:=hsame bl (hR.ok.rb _ _ _ l1).1 hne
   exact⟨bl,cl,arrl,kb.r _ _ (Ne.symm hlo) l1,hb2.trans l2,l3,l4,l5,l6,cf (kb.heap _) (kb.H _) hb2 _ _ l7,l8,l9⟩
  .rcases hR.obs l _ k1 with h|⟨l0,bl,cl,arrl,l1,l2,l3,l4,l5,l6,l7,l8⟩
   .exact .inl h
   have hne:bl≠b:=λe=>hlo (by subst e;exact hR.ok.inj _ _ _ _ _ hr l1)
   have hb2:=hsame bl (hR.ok.rb _ _ _ l1).1 hne
   exact .inr ⟨l0,bl,cl,arrl,kb.r _ _ (Ne.symm hlo) l1,hb2.trans l2,l3,l4,l5,l6,cf (kb.heap _) (kb.H _) hb2 _ _ l7,l8⟩
  rcases hR.obs l _ k1 with h|⟨l0,bl,cl,l1,l2,l3⟩
  .exact .inl h
  have hne:bl≠b:=λe=>hlo (by subst e;exact hR.ok.inj _ _ _ _ _ hr l1)
  have hb2:=hsame bl (hR.ok.rb _ _ _ l1).1 hne
  exact .inr ⟨l0,bl,cl,kb.r _ _ (Ne.symm hlo) l1,y'.st _ _ _ _ _ _ l2 (λk hk=>(kb.T _ k hk).1) hb2 (λk hk=>(kb.T _ k hk).2),l3⟩
 rw[gu (by rw[hR.size];exact hd)]
 by_cases hdk:d=k
 .subst hdk;rw[cW,if_pos rfl];exact⟨bn,cap,by simp[Env.upd],rfl⟩
 rw[cy _ _ hdk,if_neg hdk]
 rcases uY hk k with h|⟨h,h'⟩
 .rw[h];trivial
 rw[h];exact E8 kb h' (hR.sl k)
theorem JV{by_ o:Nat}{gy:Bool}{c:C}[ht:dB P t e sz by_](hrv:rsp o=η)(hd:d<N)(hx:opT st.sl x= .v (.c (.w o n)))(hy:opT st.sl y= .v (.c c))(ho:go st.ob o=ς (.row e sz els g ζ))(hs:Src st.ob c ys gy)(hk:mf o st.sl=ς sl')(hkb:kt o st.ob=ς ob')(hn:els.length=n)(hsz:∀e∈ys,e.length=sz)(hb:(n+ys.length)*by_<=140737488355328)(h63:n+ys.length<=9223372036854775807):
 AWO P N ⟨ς d,.call ⟨.builtin .append,#[x,y],#[t,t]⟩,ty,ps,af,gd⟩ st ⟨(d,.v (.c (.w o (n+ys.length))))::sl',(o,.row e sz (els++ys) (g&&gy) ζ)::ob',st.nx⟩:=by
 intro cx E a w hR
 have h1:=hR.op x;rw[hx] at h1
 obtain⟨b,cc,hr,hu⟩:=h1
 obtain⟨b',c',arr,hr',hh,ha,hlc,hmx,hes,hrd,hFm,_⟩:=hR.obs o _ ho
 rw[hr] at hr';cases hr'
 exact z7 hR hrv hd hr hu hh ha hlc hmx hes hrd (hFm rfl) hy hs hk hkb hn hsz hb h63
end
inductive AV where
 |c (x:D)
 |agg (xs:List D)
inductive RC where
 |d (x:D)
 |own (ty sz:Nat) (els:Lad) (n:Nat)
 |nil
inductive RV where
 |c (x:RC)
 |agg (xs:List RC)
variable{res:List Go.AM.RV}
abbrev aI(n:Int):AV:=.c (.i .i64 n)
abbrev aB(b:Bool):AV:=.c (.b b)
abbrev aS(s:ByteArray):AV:=.c (.str s)
abbrev aL(xs:Lad):AV:=.c (.l xs)
abbrev rB(b:Bool):RV:=.c (.d (.b b))
def DV(w:World)(F:Nat->Prop):List D->Lae->Prop
 |[],[]=>True
 |x::xs,u::us=>rdD w F x u/\DV w F xs us
 |_,_=>False
def avR(w:World)(F:Nat->Prop):AV->Value->Prop
 | .c x,u=>rdD w F x u
 | .agg xs,u=>∃arr,u= .agg arr/\DV w F xs arr.toList
def AR(w:World)(F:Nat->Prop):List AV->Lae->Prop
 |[],[]=>True
 |x::xs,u::us=>avR w F x u/\AR w F xs us
 |_,_=>False
def rcR(w:World)(G:Nat->Prop)(base:Nat):RC->Value->Lac->Prop
 | .d x,u,bs=>bs=[]/\rdD w G x u
 | .own ty sz els n,u,bs=>∃b c arr,bs=[(b,c)]/\u= .slice (ς ⟨b,0,ξ⟩) n c/\w.heap[b]?=ς (.cells arr ty (0,0))/\arr.size=c*sz/\els.length<=c/\c<=maxLen/\
  (∀e∈els,e.length=sz)/\rdLL w G els b 0/\¬G b/\base<=b
 | .nil,u,bs=>bs=[]/\u= .slice ξ 0 0
def Do(w:World)(G:Nat->Prop)(base:Nat):List RC->Lae->Lac->Prop
 |[],[],bs=>bs=[]
 |r::rs,u::us,bs=>∃b1 b2,bs=b1++b2/\rcR w G base r u b1/\Do w G base rs us b2
 |_,_,_=>False
def rvR(w:World)(G:Nat->Prop)(base:Nat):RV->Value->Lac->Prop
 | .c r,u,bs=>rcR w G base r u bs
 | .agg rs,u,bs=>∃arr,u= .agg arr/\Do w G base rs arr.toList bs
def Av(w:World)(G:Nat->Prop)(base:Nat):List RV->Lae->Lac->Prop
 |[],[],bs=>bs=[]
 |r::rs,u::us,bs=>∃b1 b2,bs=b1++b2/\rvR w G base r u b1/\Av w G base rs us b2
 |_,_,_=>False
def xL(w:World)(G:Nat->Prop)(base:Nat):List RV->Value->Lac->Prop
 |[r],v,bs=>rvR w G base r v bs
 |rs,v,bs=>∃arr,v= .tuple arr/\Av w G base rs arr.toList bs
structure Da(w w':World)(W:Nat->Prop):Prop where
 os:w'.os=w.os
 tape:w'.tape=w.tape
 output:w'.output=w.output
 size:w.heap.size<=w'.heap.size
 block:∀b,b<w.heap.size->¬W b->w'.heap[b]?=w.heap[b]?
structure Fn(P:Program)(f:FuncId)(args:List AV)(res:List RV):Prop where
 enters:∀(vs:Array Value) (w:World),(callFunc f vs).run P w= .ok (.enter f vs) w
 calls:∀(F:Nat->Prop) (w:World) (vals:Array Value),(∀b,F b->b<w.heap.size)->TabsIn w->AR w F args vals.toList->
  Calls P f vals w λe w'=>∃v G bs,e= .returned v/\Da w w' (λ_=>False)/\(∀b,G b->w.heap.size<=b/\b<w'.heap.size/\iV w' b)/\xL w' G w.heap.size res v bs/\(bs.map (·.1)).Nodup
inductive O0 (P:Program) (st:St):ResultVar->V->Prop
 |tmp {k:Tmp} {v:V} (h:gt st.sl k= .v v):O0 P st (.tmp k) v
 |cell {p:Tmp} {t n o:Nat} {vt:TypeId} {cs:List C} [ht:fU P t n] (h:gt st.sl p= .v (.c (.p o 0))) (ho:go st.ob o=ς (.var vt cs)) (hn:f4 cs.length n=ζ):O0 P st (.cell p t) (.agg cs)
 |cell1 {p:Tmp} {t o:Nat} {vt:TypeId} {c:C} [ht:ic P t] (h:gt st.sl p= .v (.c (.p o 0))) (ho:go st.ob o=ς (.var vt [c])):O0 P st (.cell p t) (.c c)
inductive ki (P:Program) (st:St):List ResultVar->List V->Prop
 |nil:ki P st [] []
 |cons {r:ResultVar} {rs:List ResultVar} {v:V} {vs:List V} (h:O0 P st r v) (h':ki P st rs vs):ki P st (r::rs) (v::vs)
def uO(ob:Laa):C->Option (RC×List Nat)
 | .d _ (.i k n)=>ς (.d (.i k n),[])
 | .d _ (.b x)=>ς (.d (.b x),[])
 | .d _ (.str s)=>ς (.d (.str s),[])
 | .d ζ (.l xs)=>ς (.d (.l xs),[])
 | .w o n=>match go ob o,rsv o with
  |some (.row ty sz els ζ ζ),η=>ς (.own ty sz els n,[o])
  |_,_=>ξ
 | .nil=>ς (.nil,[])
 |_=>ξ
def Ab(ob:Laa):List C->Option (List RC×List Nat)
 |[]=>ς ([],[])
 |c::cs=>match uO ob c,Ab ob cs with
  |some (r,l),ς (rs,ls)=>ς (r::rs,l++ls)
  |_,_=>ξ
def Jz(ob:Laa):V->Option (RV×List Nat)
 | .c c=>match uO ob c with
  |some (r,l)=>ς (.c r,l)
  |none=>ξ
 | .agg cs=>match Ab ob cs with
  |some (r,l)=>ς (.agg r,l)
  |none=>ξ
def um(ob:Laa):List V->Option (List RV×List Nat)
 |[]=>ς ([],[])
 |c::cs=>match Jz ob c,um ob cs with
  |some (r,l),ς (rs,ls)=>ς (r::rs,l++ls)
  |_,_=>ξ
def lM:List Nat->Bool
 |[]=>ζ
 |x::xs=>!(xs.any (f4 x))&&lM xs
theorem jN:∀{l:List Nat},lM l=ζ->l.Nodup
 |[],_=>List.nodup_nil
 |x::xs,h=>by
  simp only[lM,hV,Yz] at h
  refine YT.2 ⟨λhm=>?_,jN h.2⟩
  have:xs.any (f4 x)=true:=YF.2 ⟨x,hm,by simp⟩
  rw[this] at h;exact absurd h.1 (by simp)
def Fin(P:Program)(rs:List ResultVar)(res:List RV)(s:St):Prop:=∃vs ls,ki P s rs vs/\um s.ob vs=ς (res,ls)/\lM ls=ζ
theorem La{cx:Cx}(hR:Rel N cx E st a w){c:C}{r:RC}{ls:List Nat}(h:uO st.ob c=ς (r,ls))(hc:cvC E w c u):
 ∃bs,rcR w E.G cx.w0.heap.size r u bs/\bs.length=ls.length/\∀(i:Nat) (l:Nat),ls[i]?=ς l->∃p,bs[i]?=ς p/\E.r l=ς p:=by
 cases c with
 |d g x=>
  cases x with
  |i k n=>simp[uO] at h;obtain⟨rfl,rfl⟩:=h;exact⟨[],⟨rfl,by simp_all[cvC,rdD]⟩,rfl,by simp⟩
  |b k=>simp[uO] at h;obtain⟨rfl,rfl⟩:=h;exact⟨[],⟨rfl,by simp_all[cvC,rdD]⟩,rfl,by simp⟩
  |str k=>simp[uO] at h;obtain⟨rfl,rfl⟩:=h;exact⟨[],⟨rfl,by simp_all[cvC,rdD]⟩,rfl,by simp⟩
  |l xs=>
   cases g with
   |false=>grind[uO]
   |true=>simp[uO] at h;obtain⟨rfl,rfl⟩:=h;exact⟨[],⟨rfl,hc⟩,rfl,by simp⟩
  |k A n c=>grind[uO]
 |w o n=>
  simp only[uO] at h
  split at h
  .rename_i ty sz els ho hrv
   simp at h;obtain⟨rfl,rfl⟩:=h
   obtain⟨b,c,hr,rfl⟩:=hc
   obtain⟨b',c',arr,hr',hh,ha,hlc,hmx,hes,hrd,hFm,_⟩:=hR.obs o _ ho
   rw[hr] at hr';cases hr'
   refine⟨[(b,c)],⟨b,c,arr,rfl,rfl,hh,ha,hlc,hmx,hes,hrd,λhg=>hFm rfl (hR.ok.gf b hg),((hR.ok.rb o b c hr).2).resolve_right (λh=>by simp_all)⟩,rfl,λi l hi=>?_⟩
   grind
  cases h
 |nil=>simp[uO] at h;obtain⟨rfl,rfl⟩:=h;exact⟨[],⟨rfl,hc⟩,rfl,by simp⟩
 |_=>grind[uO]
theorem Lv{b1 b2:Lac}{l1 l2:List Nat}(h1:b1.length=l1.length)(k1:∀(i:Nat) (l:Nat),l1[i]?=ς l->∃p,b1[i]?=ς p/\E.r l=ς p)(k2:∀(i:Nat) (l:Nat),l2[i]?=ς l->∃p,b2[i]?=ς p/\E.r l=ς p):∀(i:Nat) (l:Nat),(l1++l2)[i]?=ς l->∃p,(b1++b2)[i]?=ς p/\E.r l=ς p:=by
 grind
theorem Hl{N:Nat}{cx:Cx}{E:Env}{st:St}{a:Act}{w:World}(hR:Rel N cx E st a w):∀{cs:List C} {rs:List RC} {ls:List Nat} {us:Lae},Ab st.ob cs=ς (rs,ls)->CV E w cs us->
 ∃bs,Do w E.G cx.w0.heap.size rs us bs/\bs.length=ls.length/\∀(i:Nat) (l:Nat),ls[i]?=ς l->∃p,bs[i]?=ς p/\E.r l=ς p
 |[],rs,ls,us,h,hc=>by
  simp[Ab] at h;obtain⟨rfl,rfl⟩:=h
  cases us with
  |nil=>exact⟨[],rfl,rfl,by simp⟩
  |cons _ _=>exact hc.elim
 |c::cs,rs,ls,us,h,hc=>by
  cases us with
  |nil=>exact hc.elim
  |cons u us=>
   simp only[Ab] at h
   split at h
   .rename_i r l rs' ls' h1 h2
    simp at h;obtain⟨rfl,rfl⟩:=h
    obtain⟨b1,k1,k2,k3⟩:=La hR h1 hc.1
    obtain⟨b2,m1,m2,m3⟩:=Hl hR h2 hc.2
    exact⟨b1++b2,⟨b1,b2,rfl,k1,m1⟩,by simp[k2,m2],Lv k2 k3 m3⟩
   cases h
theorem T8{cx:Cx}(hR:Rel N cx E st a w){v:V}{r:RV}{ls:List Nat}(h:Jz st.ob v=ς (r,ls))(hv:cvV E w v u):
 ∃bs,rvR w E.G cx.w0.heap.size r u bs/\bs.length=ls.length/\∀(i:Nat) (l:Nat),ls[i]?=ς l->∃p,bs[i]?=ς p/\E.r l=ς p:=by
 cases v with
 |c c=>
  simp only[Jz] at h
  split at h
  .rename_i r' l' h1;simp at h;obtain⟨rfl,rfl⟩:=h;exact La hR h1 hv
  cases h
 |agg cs=>
  simp only[Jz] at h
  split at h
  .rename_i r' l' h1;simp at h;obtain⟨rfl,rfl⟩:=h
   obtain⟨arr,hu,hc⟩:=hv
   obtain⟨bs,k1,k2,k3⟩:=Hl hR h1 hc
   exact⟨bs,⟨arr,hu,k1⟩,k2,k3⟩
  cases h
theorem BI{N:Nat}{cx:Cx}{E:Env}{st:St}{a:Act}{w:World}(hR:Rel N cx E st a w):∀{vs:List V} {rs:List RV} {ls:List Nat} {us:Lae},um st.ob vs=ς (rs,ls)->VV E w vs us->
 ∃bs,Av w E.G cx.w0.heap.size rs us bs/\bs.length=ls.length/\∀(i:Nat) (l:Nat),ls[i]?=ς l->∃p,bs[i]?=ς p/\E.r l=ς p
 |[],rs,ls,us,h,hc=>by
  simp[um] at h;obtain⟨rfl,rfl⟩:=h
  cases us with
  |nil=>exact⟨[],rfl,rfl,by simp⟩
  |cons _ _=>exact hc.elim
 |c::cs,rs,ls,us,h,hc=>by
  cases us with
  |nil=>exact hc.elim
  |cons u us=>
   simp only[um] at h
   split at h
   .rename_i r l rs' ls' h1 h2
    simp at h;obtain⟨rfl,rfl⟩:=h
    obtain⟨b1,k1,k2,k3⟩:=T8 hR h1 hc.1
    obtain⟨b2,m1,m2,m3⟩:=BI hR h2 hc.2
    exact⟨b1++b2,⟨b1,b2,rfl,k1,m1⟩,by simp[k2,m2],Lv k2 k3 m3⟩
   cases h
def lR(tmps:Array Value):ResultVar->Sem Value
 | .tmp t=>pure (tmps.getD t undef)
 | .cell p t=>do loadVar t (<-asAddr (tmps.getD p undef))
theorem TD{cx:Cx}(hR:Rel N cx E st a w){r:ResultVar}{v:V}(h:O0 P st r v):
 ∃u,(lR a.tmps r).run P w= .ok u w/\cvV E w v u:=by
 cases h with
 |tmp h=>rename_i k;have:=hR.sl k;rw[h] at this;exact⟨_,by simp[lR],this⟩
 |cell h ho hn=>
  rename_i p t n o vt cs ht
  have h1:=hR.sl p;rw[h] at h1
  obtain⟨b,c,hr,hu⟩:=h1
  obtain⟨b',c',arr,hr',hh,hcv,_⟩:=hR.obs o _ ho
  rw[hr] at hr';cases hr'
  have hl:=iU hcv
  have hnn:=Yf hn
  have:=p5 (P:=P) (t:=t) (n:=n) (b:=b) (k:=0) (us:=arr.toList) (w:=w) oaa (λj u hj=>by grind[d7])
  refine⟨.agg arr.toList.toArray,?_,arr,by simp,hcv⟩
  simp_all[Instr.loadAt,Instr.sureAddr,lR,asAddr]
 |cell1 h ho=>
  rename_i p t o vt c ht
  have h1:=hR.sl p;rw[h] at h1
  obtain⟨b,c',hr,hu⟩:=h1
  obtain⟨b',c'',arr,hr',hh,hcv,_⟩:=hR.obs o _ ho
  rw[hr] at hr';cases hr'
  obtain⟨u,hu',hcu⟩:=Dv (k:=0) hcv rfl
  have:=lL (P:=P) (t:=t) (b:=b) (k:=0) (u:=u) (w:=w) (by grind[d7])
  refine⟨u,?_,hcu⟩
  simp_all[Instr.loadAt,Instr.sureAddr,lR,asAddr]
theorem uI{P:Program}{N:Nat}{cx:Cx}{E:Env}{st:St}{a:Act}{w:World}(hR:Rel N cx E st a w):∀{rs:List ResultVar} {vs:List V},ki P st rs vs->
 ∃us,(rs.mapM (lR a.tmps)).run P w= .ok us w/\VV E w vs us
 |_,_,.nil=>⟨[],by simp,θ⟩
 |_,_,.cons (r:=r) h h'=>by
  obtain⟨u,k1,k2⟩:=TD hR h
  obtain⟨us,m1,m2⟩:=uI hR h'
  refine⟨u::us,?_,k2,m2⟩
  simp_all
theorem Wo{cx:Cx}(hR:Rel N cx E st a w){fn:Func}(h:Fin P fn.results.toList res st):
 ∃v bs,(results fn a.tmps).run P w= .ok v w/\xL w E.G cx.w0.heap.size res v bs/\(bs.map (·.1)).Nodup:=by
 obtain⟨vs,ls,h1,h2,h3⟩:=h
 obtain⟨us,k1,k2⟩:=uI hR h1
 obtain⟨bs,m1,m2,m3⟩:=BI hR h2 k2
 have hnd:(bs.map (·.1)).Nodup:=by
  have hnl:=jN h3
  refine YE.2 λi j hi hj hij he=>?_
  simp only[YA] at hi hj
  obtain⟨p,p1,p2⟩:=m3 i ls[i] (Yb oaa)
  obtain⟨q,q1,q2⟩:=m3 j ls[j] (Yb oaa)
  rw[Yb hi] at p1
  rw[Yb hj] at q1
  cases p1;cases q1
  simp only[List.getElem_map] at he
  rcases hbi:bs[i] with⟨b1,c1⟩
  rcases hbj:bs[j] with⟨b2,c2⟩
  rw[hbi,hbj] at he
  rw[hbi] at p2;rw[hbj] at q2
  have hb:b1=b2:=he
  subst hb
  exact YE.1 hnl i j oaa oaa hij (hR.ok.inj _ _ _ _ _ p2 q2)
 have hm:(fn.results.mapM (lR a.tmps)).run P w= .ok us.toArray w:=by
  rw[<-YQ (xs:=fn.results),List.mapM_toArray]
  simp only[Sem.run_map,k1]
  rfl
 have hres:results fn a.tmps=(fn.results.mapM (lR a.tmps))>>= λvs=>pure (if h:vs.size=1 then vs[0] else .tuple vs):=rfl
 have hlen:us.length=vs.length:=by
  have key:∀(vs:List V) (us:Lae),VV E w vs us->us.length=vs.length:=by
   intro vs
   induction vs with
   |nil=>intro us h;cases us with
    |nil=>rfl
    |cons _ _=>exact h.elim
   |cons v vs ih=>intro us h;cases us with
    |nil=>exact h.elim
    |cons u us=>simp[ih us h.2]
  exact key vs us k2
 have hlen2:us.length=res.length:=by
  have key:∀(rs:List RV) (us:Lae) (bs:Lac),Av w E.G cx.w0.heap.size rs us bs->us.length=rs.length:=by
   intro rs
   induction rs with
   |nil=>intro us bs h;cases us with
    |nil=>rfl
    |cons _ _=>exact h.elim
   |cons v vs ih=>intro us bs h;cases us with
    |nil=>exact h.elim
    |cons u us=>obtain⟨b1,b2,_,_,h⟩:=h;grind
  exact key res us bs m1
 match res,us,m1,hlen2 with
 |[],[],m1,_=>exact⟨.tuple #[],bs,by simp_all,⟨#[],rfl,m1⟩,hnd⟩
 |[r],[u],m1,_=>
  obtain⟨b1,b2,rfl,h4,h5⟩:=m1
  have:b2=[]:=h5
  subst this
  exact⟨u,b1++[],by simp_all,by simp_all[xL],hnd⟩
 |r1::r2::rs,u1::u2::us,m1,_=>
  exact⟨.tuple (u1::u2::us).toArray,bs,by simp_all,⟨_,rfl,m1⟩,hnd⟩
def argT:AV->T
 | .c x=>.v (.c (ldC η x))
 | .agg xs=>.v (.agg (xs.map (ldC η)))
def uj:Nat->List AV->Lab
 |_,[]=>[]
 |k,a::as=>(k,argT a)::uj (k+1) as
def th(N:Nat)(P:Program)(rs:List ResultVar)(res:List RV):Exit->St->Prop
 | .normal,s| .ret,s=>∃s',cM N s s'/\Fin P rs res s'
 |_,_=>False
theorem Rk{rs:List ResultVar}{s:St}(h:Fin P rs res s):th N P rs res .ret s:=⟨s,λ_ E _ _ h=>⟨E,h⟩,h⟩
theorem OY{E:Env}{w:World}{F:Nat->Prop}(hF:E.F=F):∀{xs:List D} {us:Lae},DV w F xs us->CV E w (xs.map (ldC η)) us
 |[],[],_=>trivial
 |x::xs,u::us,h=>⟨B1 (g:=η) (by subst hF;exact h.1),OY hF h.2⟩
 |[],_::_,h=>h.elim
 |_::_,[],h=>h.elim
theorem Bi{E:Env}{w:World}{F:Nat->Prop}(hF:E.F=F):∀{as:List AV} {us:Lae} (k0:Nat),AR w F as us->us.length=as.length/\∀k,(k0<=k/\k<k0+as.length->∃u,us[k-k0]?=ς u/\cvT E w (gt (uj k0 as) k) u)/\(¬(k0<=k/\k<k0+as.length)->gt (uj k0 as) k= .any)
 |[],[],k0,_=>⟨rfl,λk=>⟨λh=>by grind,λ_=>rfl⟩⟩
 |a::as,u::us,k0,h=>by
  obtain⟨h1,h2⟩:=Bi hF (k0+1) h.2
  refine⟨by simp[h1],λk=>?_⟩
  by_cases hk:k0=k
  .subst hk
   refine⟨λ_=>⟨u,by simp,?_⟩,λhn=>absurd ⟨Yj _,by simp⟩ hn⟩
   rw[uj,cW]
   cases a with
   |c x=>exact B1 (g:=η) (by subst hF;exact h.1)
   |agg xs=>obtain⟨arr,hu,hd⟩:=h.1;exact⟨arr,hu,OY hF hd⟩
  rw[uj,cy _ _ hk]
  refine⟨λhr=>?_,λhr=>(h2 k).2 (λh=>hr ⟨by omega,by simp;omega⟩)⟩
  obtain⟨v,h3,h4⟩:=(h2 k).1 ⟨by omega,by grind⟩
  grind
 |[],_::_,_,h=>h.elim
 |_::_,[],_,h=>h.elim
theorem fn_of{f:FuncId}{fn:Func}{c:Code}{args:List AV}{rs:List ResultVar}(hf:P.funcs[f]?=ς fn)(hb:fn.body=ς c)(hnm:(fn.name== "runtime.NumGoroutine")=η)(hN:fn.ntmps=N)(hrs:fn.results.toList=rs)(ha:Yk args.length N=ζ)(h:AWC P N c ⟨uj 0 args,[],0⟩ (th N P rs res)):Fn P f args res:=by
 refine⟨λvs w=>by simp_all[callFunc],λF w vals hF hT hA=>?_⟩
 subst hrs
 refine calls_of_wp hf hb ?_
 let E:Env:={r:=λ_=>ξ,F:=F,G:=λ_=>False}
 obtain⟨h1,h2⟩:=Bi (E:=E) (F:=F) rfl 0 hA
 have hle:args.length<=N:=YJ ha
 have hsz:vals.size=args.length:=by simpa using h1
 have hR:Rel N ⟨w,λ_=>False,λ_=>ξ,λ_=>True,λ_=>False,⟨hT,λ_ _ h=>h⟩,λ_=>False⟩ E ⟨uj 0 args,[],0⟩ {tmps:=vals++Ym (fn.ntmps-vals.size) undef,defers:=[]} w:=by
  refine⟨⟨hF,λ_ h=>h.elim,λ_ h=>h.elim,(λ_ _ _ h=>by cases h),(λ_ _ _ _ _ h=>by cases h),rfl,rfl,rfl,Yj _,λ_ _ _=>rfl,(λ_ _ _ h=>by cases h),λ_ _=>.inl trivial,λb h h'=>absurd (hF b h) (by simp_all),⟨λ_ _ h=>h.elim,λ_ _ _ h=>h.elim,λ_ h=>h.elim,λ_ h=>h.elim,λ_ h=>h.elim⟩⟩,(λ_ _ h=>by cases h),(λ_ _ h=>by cases h),λk=>?_,rfl,by simp;omega,λ_ _ h=>h.elim⟩
  by_cases hk:k<args.length
  .obtain⟨u,h3,h4⟩:=(h2 k).1 ⟨Yu _,by omega⟩
   have:(vals++Ym (fn.ntmps-vals.size) undef).getD k undef=u:=by
    have h5:vals[k]?=ς u:=by simpa using h3
    have h6:(vals++Ym (fn.ntmps-vals.size) undef)[k]?=ς u:=by rw[Array.getElem?_append_left oaa];exact h5
    simp[h6]
   simp_all
  simp_all[cvT,gt,uj,trivial]
 refine wp_mono (h _ E _ w hR) ?_
 rintro e a' w' ⟨E',s',hR',hq⟩
 have fin:∀s',Rel N ⟨w,λ_=>False,λ_=>ξ,λ_=>True,λ_=>False,⟨hT,λ_ _ h=>h⟩,λ_=>False⟩ E' s' a' w'->(∃s'',cM N s' s''/\Fin P fn.results.toList res s'')->
  a'.defers=[]/\∃v,(results fn a'.tmps).run P w'= .ok v w'/\∃v' G bs,Ending.returned v= .returned v'/\Da w w' (λ_=>False)/\(∀b,G b->w.heap.size<=b/\b<w'.heap.size/\iV w' b)/\xL w' G w.heap.size res v' bs/\(bs.map (·.1)).Nodup:=by
  rintro s' hR' ⟨s'',hw,hfin⟩
  obtain⟨E'',hR''⟩:=hw _ _ _ _ hR'
  obtain⟨v,bs,k1,k2,k3⟩:=Wo hR'' hfin
  have ok:=hR''.ok
  exact⟨hR''.dfr,v,k1,v,E''.G,bs,rfl,⟨ok.os,ok.tape,ok.output,ok.size,ok.block⟩,λb hb=>⟨(ok.gn b hb).resolve_right id,ok.fb b (ok.gf b hb),ok.gc b (ok.gf b hb) ((ok.gn b hb).resolve_right id)⟩,k2,k3⟩
 cases e with
 |normal=>exact fin s' hR' hq
 |ret=>exact fin s' hR' hq
 |_=>exact hq.elim
def labC:C->List Nat
 | .w o _=>[o]
 | .s o _ _ _=>[o]
 | .wn o _=>[o]
 |_=>[]
def VH:List C->List Nat
 |[]=>[]
 |c::cs=>labC c++VH cs
def BZ:List T->List Nat
 |[]=>[]
 | .v (.c c)::ts=>labC c++BZ ts
 | .v (.agg cs)::ts=>VH cs++BZ ts
 |_::ts=>BZ ts
def nM(ob:Laa):List Nat->Option Laa
 |[]=>ς []
 |l::ls=>match go ob l,nM ob ls with
  |some x,ς r=>ς ((l,x)::r)
  |_,_=>ξ
theorem oE{ob:Laa}:∀{ls:List Nat} {nob:Laa},nM ob ls=ς nob->Lo ob nob
 |[],nob,h=>by simp[nM] at h;subst h;trivial
 |l::ls,nob,h=>by
  simp only[nM] at h
  split at h
  .rename_i x r h1 h2;simp at h;subst h;exact⟨h1,oE h2⟩
  cases h
theorem uR{ob:Laa}{x:Ob}(h:go ob l=ς x):(l,x)∈ob:=by
 induction ob with
 |nil=>cases h
 |cons p r ih=>
  grind[b9,bG]
def ye(nob:Laa):C->Option (D×Lac)
 | .d _ x=>ς (x,[])
 | .nil=>ς (.l [],[])
 | .w o n=>match go nob o with
  |some (.row _ _ els _ _)=>ς (.l els,[(els.length,n)])
  |_=>ξ
 | .wn o n=>match go nob o with
  |some (.rown _ _ els _)=>ς (.l els,[(els.length,n)])
  |_=>ξ
 | .s o sz off len=>match go nob o with
  |some (.row _ sz' els _ _)=>match f4 sz sz' with
   |true=>ς (.l ((els.drop off).take len),[(off+len-els.length,0)])
   |false=>ξ
  |_=>ξ
 |_=>ξ
def G5(nob:Laa):List C->Option (List D×Lac)
 |[]=>ς ([],[])
 |c::cs=>match ye nob c,G5 nob cs with
  |some (x,e),ς (xs,es)=>ς (x::xs,e++es)
  |_,_=>ξ
def XN(nob:Laa):T->Option (AV×Lac)
 | .v (.c c)=>match ye nob c with
  |some (x,e)=>ς (.c x,e)
  |none=>ξ
 | .v (.agg cs)=>match G5 nob cs with
  |some (x,e)=>ς (.agg x,e)
  |none=>ξ
 |_=>ξ
def Ey(nob:Laa):List T->Option (List AV×Lac)
 |[]=>ς ([],[])
 |c::cs=>match XN nob c,Ey nob cs with
  |some (x,e),ς (xs,es)=>ς (x::xs,e++es)
  |_,_=>ξ
def G1(nob:Laa):C->Option (D×Lac)
 | .r _ x=>ς (x,[])
 |c=>ye nob c
def Bw(nob:Laa):List C->Option (List D×Lac)
 |[]=>ς ([],[])
 |c::cs=>match G1 nob c,Bw nob cs with
  |some (x,e),ς (xs,es)=>ς (x::xs,e++es)
  |_,_=>ξ
def Sq(nob:Laa):T->Option (AV×Lac)
 | .v (.c c)=>match G1 nob c with
  |some (x,e)=>ς (.c x,e)
  |none=>ξ
 | .v (.agg cs)=>match Bw nob cs with
  |some (x,e)=>ς (.agg x,e)
  |none=>ξ
 |_=>ξ
def uf(nob:Laa):List T->Option (List AV×Lac)
 |[]=>ς ([],[])
 |c::cs=>match Sq nob c,uf nob cs with
  |some (x,e),ς (xs,es)=>ς (x::xs,e++es)
  |_,_=>ξ
def Eqs:Lac->Prop
 |[]=>True
 |(a,b)::r=>a=b/\Eqs r
theorem dO:∀{l m:Lac},Eqs (l++m)->Eqs l/\Eqs m
 |[],m,h=>⟨θ,h⟩
 |(a,b)::l,m,h=>let ⟨h1,h2⟩:=dO (l:=l) h.2;⟨⟨h.1,h1⟩,h2⟩
def lk(E:Env)(nob:Laa):Nat->Prop:=λb=>E.F b\/∃l x c,go nob l=ς x/\E.r l=ς (b,c)
def Br(E:Env)(nob:Laa):Nat->Prop:=λb=>lk E nob b\/∃l,E.T l b
section
variable{cx:Cx}{E:Env}{w:World}{nob:Laa}(ok:da cx E w)(hob:∀l x,go nob l=ς x->cB E w l x)
include ok hob
theorem AC{c:C}{e:Lac}(h:ye nob c=ς (x,e))(he:Eqs e)(hc:cvC E w c u):rdD w (lk E nob) x u:=by
 have hHF:∀g b,E.H g b->lk E nob b:=λg b hb=>.inl (by cases g;exact hb;exact ok.gf b hb)
 cases c with
 |d g y=>simp[ye] at h;obtain⟨rfl,rfl⟩:=h;exact cm (λ_ _=>rfl) (hHF g) _ _ hc
 |nil=>simp[ye] at h;obtain⟨rfl,rfl⟩:=h;have:u= .slice ξ 0 0:=hc;subst this;rw[rdD];exact⟨ξ,0,rfl,Yj _,.inl rfl⟩
 |w o n=>
  simp only[ye] at h
  split at h
  .rename_i t sz els g m ho
   simp at h;obtain⟨rfl,rfl⟩:=h
   obtain⟨b,cc,hr,rfl⟩:=hc
   obtain⟨b',c',arr,hr',hh,ha,hlc,hmx,hes,hrd,_⟩:=hob o _ ho
   rw[hr] at hr';cases hr'
   have hn:els.length=n:=he.1
   subst hn
   rw[rdD]
   exact⟨_,_,rfl,hlc,.inr ⟨b,0,rfl,.inr ⟨o,_,cc,ho,hr⟩,cf (λ_ _=>rfl) (hHF g) rfl _ _ hrd⟩⟩
  cases h
 |wn o n=>
  simp only[ye] at h
  split at h
  .rename_i t sz els g ho
   simp at h;obtain⟨rfl,rfl⟩:=h
   have hn:els.length=n:=he.1
   rcases hc with⟨h0,rfl,rfl⟩|⟨h0,b,cc,hr,rfl⟩
   .have:els=[]:=YD hn
    subst this
    rw[rdD];exact⟨ξ,0,rfl,Yj _,.inl rfl⟩
   rcases hob o _ ho with⟨h1,_⟩|⟨_,b',c',arr,hr',hh,ha,hlc,hmx,hes,hrd,_⟩
   .simp_all
   rw[hr] at hr';cases hr'
   subst hn
   rw[rdD]
   exact⟨_,_,rfl,hlc,.inr ⟨b,0,rfl,.inr ⟨o,_,cc,ho,hr⟩,cf (λ_ _=>rfl) (hHF g) rfl _ _ hrd⟩⟩
  cases h
 |s o sz off len=>
  simp only[ye] at h
  split at h
  .rename_i t sz' els g m ho
   split at h
   .rename_i hb
    have hsz:=Yf hb
    subst hsz
    simp at h;obtain⟨rfl,rfl⟩:=h
    obtain⟨A,cc,b,k,hr,rfl,hlc',_,hA⟩:=hc
    obtain⟨b',c',arr,hr',hh,ha,hlc,hmx,hes,hrd,_⟩:=hob o _ ho
    rw[hr] at hr';cases hr'
    have hle:off+len-els.length=0:=he.1
    have hl:((els.drop off).take len).length=len:=by simp;omega
    rw[rdD]
    refine⟨A,cc,by rw[hl],by omega,?_⟩
    rcases hA with h0|h0
    .exact .inl (YD oaa)
    right;exact⟨b,off*sz,h0,.inr ⟨o,_,k,ho,hr⟩,cf (λ_ _=>rfl) (hHF g) rfl _ _ (by simpa using nY len (sJ hrd hes off))⟩
   cases h
  cases h
 |_=>grind[ye]
theorem G6:∀{cs:List C} {xs:List D} {e:Lac} {us:Lae},G5 nob cs=ς (xs,e)->Eqs e->CV E w cs us->DV w (lk E nob) xs us
 |[],xs,e,us,h,he,hc=>by
  simp[G5] at h;obtain⟨rfl,rfl⟩:=h
  cases us with
  |nil=>trivial
  |cons _ _=>exact hc.elim
 |c::cs,xs,e,us,h,he,hc=>by
  cases us with
  |nil=>exact hc.elim
  |cons u us=>
   simp only[G5] at h
   split at h
   .rename_i x e1 xs' e2 h1 h2
    simp at h;obtain⟨rfl,rfl⟩:=h
    obtain⟨k1,k2⟩:=dO he
    exact⟨AC ok hob h1 k1 hc.1,G6 h2 k2 hc.2⟩
   cases h
theorem Vg{t:T}{x:AV}{e:Lac}(h:XN nob t=ς (x,e))(he:Eqs e)(hc:cvT E w t u):avR w (lk E nob) x u:=by
 unfold XN at h
 split at h
 .split at h
  .rename_i h1;simp at h;obtain⟨rfl,rfl⟩:=h;exact AC ok hob h1 he hc
  cases h
 .split at h
  .rename_i h1;simp at h;obtain⟨rfl,rfl⟩:=h;obtain⟨arr,hu,hc⟩:=hc;exact⟨arr,hu,G6 ok hob h1 he hc⟩
  cases h
 cases h
theorem IY{a:Act}:∀{ts:List T} {xs:List AV} {e:Lac} {args:List Operand},Ey nob ts=ς (xs,e)->Eqs e->ts.length=args.length->(∀x t,(x,t)∈args.zip ts->cvT E w t (a.eval x))->AR w (lk E nob) xs (args.map a.eval)
 |[],xs,e,[],h,he,hl,hn=>by simp[Ey] at h;obtain⟨rfl,rfl⟩:=h;trivial
 |t::ts,xs,e,x::args,h,he,hl,hn=>by
  simp only[Ey] at h
  split at h
  .rename_i y e1 ys e2 h1 h2
   simp at h;obtain⟨rfl,rfl⟩:=h
   obtain⟨k1,k2⟩:=dO he
   exact⟨Vg ok hob h1 k1 (hn x t (by simp)),IY h2 k2 (by simp_all) λx t hm=>hn x t (by simp_all)⟩
  cases h
 |[],_,_,_::_,_,_,hl,_=>by simp at hl
 |_::_,_,_,[],_,_,hl,_=>by simp at hl
theorem G3{c:C}{e:Lac}(h:G1 nob c=ς (x,e))(he:Eqs e)(hc:cvC E w c u):rdD w (Br E nob) x u:=by
 have gen:∀{c:C},ye nob c=ς (x,e)->cvC E w c u->rdD w (Br E nob) x u:=λh hc=>cm (λ_ _=>rfl) (λb hb=>.inl hb) _ _ (AC ok hob h he hc)
 cases c with
 |r l y=>simp[G1] at h;obtain⟨rfl,rfl⟩:=h;exact cm (λ_ _=>rfl) (λb hb=>.inr ⟨l,hb⟩) _ _ hc
 |_=>grind[G1]
theorem DE:∀{cs:List C} {xs:List D} {e:Lac} {us:Lae},Bw nob cs=ς (xs,e)->Eqs e->CV E w cs us->DV w (Br E nob) xs us
 |[],xs,e,us,h,he,hc=>by
  simp[Bw] at h;obtain⟨rfl,rfl⟩:=h
  cases us with
  |nil=>trivial
  |cons _ _=>exact hc.elim
 |c::cs,xs,e,us,h,he,hc=>by
  cases us with
  |nil=>exact hc.elim
  |cons u us=>
   simp only[Bw] at h
   split at h
   .rename_i x e1 xs' e2 h1 h2
    simp at h;obtain⟨rfl,rfl⟩:=h
    obtain⟨k1,k2⟩:=dO he
    exact⟨G3 ok hob h1 k1 hc.1,DE h2 k2 hc.2⟩
   cases h
theorem Sr{t:T}{x:AV}{e:Lac}(h:Sq nob t=ς (x,e))(he:Eqs e)(hc:cvT E w t u):avR w (Br E nob) x u:=by
 unfold Sq at h
 split at h
 .split at h
  .rename_i h1;simp at h;obtain⟨rfl,rfl⟩:=h;exact G3 ok hob h1 he hc
  cases h
 .split at h
  .rename_i h1;simp at h;obtain⟨rfl,rfl⟩:=h;obtain⟨arr,hu,hc⟩:=hc;exact⟨arr,hu,DE ok hob h1 he hc⟩
  cases h
 cases h
theorem Ez{a:Act}:∀{ts:List T} {xs:List AV} {e:Lac} {args:List Operand},uf nob ts=ς (xs,e)->Eqs e->ts.length=args.length->(∀x t,(x,t)∈args.zip ts->cvT E w t (a.eval x))->AR w (Br E nob) xs (args.map a.eval)
 |[],xs,e,[],h,he,hl,hn=>by simp[uf] at h;obtain⟨rfl,rfl⟩:=h;trivial
 |t::ts,xs,e,x::args,h,he,hl,hn=>by
  simp only[uf] at h
  split at h
  .rename_i y e1 ys e2 h1 h2
   simp at h;obtain⟨rfl,rfl⟩:=h
   obtain⟨k1,k2⟩:=dO he
   exact⟨Sr ok hob h1 k1 (hn x t (by simp)),Ez h2 k2 (by simp_all) λx t hm=>hn x t (by simp_all)⟩
  cases h
 |[],_,_,_::_,_,_,hl,_=>by simp at hl
 |_::_,_,_,[],_,_,hl,_=>by simp at hl
end
def Nr(nx:Nat):RC->Option (C×Laa×Nat)
 | .d (.i k n)=>ς (.d η (.i k n),[],nx)
 | .d (.b x)=>ς (.d η (.b x),[],nx)
 | .d (.str s)=>ς (.d η (.str s),[],nx)
 | .d (.l xs)=>ς (.d ζ (.l xs),[],nx)
 | .d (.k _ _ _)=>ξ
 | .own ty sz els n=>ς (.w nx n,[(nx,.row ty sz els ζ ζ)],nx+1)
 | .nil=>ς (.nil,[],nx)
def HD(nx:Nat):List RC->Option (List C×Laa×Nat)
 |[]=>ς ([],[],nx)
 |r::rs=>match Nr nx r with
  |some (c,b,n)=>match HD n rs with
   |some (cs,bs,m)=>ς (c::cs,b++bs,m)
   |none=>ξ
  |none=>ξ
def Qm(nx:Nat):RV->Option (V×Laa×Nat)
 | .c r=>match Nr nx r with
  |some (c,b,n)=>ς (.c c,b,n)
  |none=>ξ
 | .agg rs=>match HD nx rs with
  |some (c,b,n)=>ς (.agg c,b,n)
  |none=>ξ
def HF(nx:Nat):List RV->Option (List V×Laa×Nat)
 |[]=>ς ([],[],nx)
 |r::rs=>match Qm nx r with
  |some (c,b,n)=>match HF n rs with
   |some (cs,bs,m)=>ς (c::cs,b++bs,m)
   |none=>ξ
  |none=>ξ
def xF(nx:Nat):List RV->Option (T×Laa×Nat)
 |[r]=>match Qm nx r with
  |some (v,b,n)=>ς (.v v,b,n)
  |none=>ξ
 |rs=>match HF nx rs with
  |some (v,b,n)=>ς (.tup v,b,n)
  |none=>ξ
def Imp(E:Env)(w:World)(nx n:Nat)(bs:Lac)(nw:Laa):Prop:=
 n=nx+bs.length/\(∀l x,(l,x)∈nw->cB E w l x/\nx<=l/\l<n)/\∀l,nx<=l->l<n->∃x,(l,x)∈nw
theorem Imp.join{m:Nat}{b1 b2:Lac}{nw1 nw2:Laa}(h1:Imp E w nx n b1 nw1)(h2:Imp E w n m b2 nw2):Imp E w nx m (b1++b2) (nw1++nw2):=by
 obtain⟨rfl,h1b,h1c⟩:=h1
 obtain⟨rfl,h2b,h2c⟩:=h2
 refine⟨by simp;omega,λl x hm=>?_,λl hl1 hl2=>?_⟩
 .grind
 grind
section
variable{E:Env}{w:World}{G:Nat->Prop}{base:Nat}(hG:∀b,G b->E.G b)(hnF:∀b:Nat,base<=b->¬G b->¬E.F b)
include hG hnF
theorem Lq{r:RC}{bs:Lac}{c:C}(h:Nr nx r=ς (c,nw,n))(hr:rcR w G base r u bs)(hb:∀(i:Nat) (p:Nat×Nat),bs[i]?=ς p->E.r (nx+i)=ς p):
 cvC E w c u/\Imp E w nx n bs nw:=by
 cases r with
 |d x=>
  obtain⟨rfl,hr⟩:=hr
  cases x<;>simp[Nr] at h<;>obtain⟨rfl,rfl,rfl⟩:=h<;>refine⟨?_,⟨rfl,by simp,λl h1 h2=>by omega⟩⟩
  .simp_all[cvC,rdD]
  .simp_all[cvC,rdD]
  .simp_all[cvC,rdD]
  exact cm (λ_ _=>rfl) hG _ _ hr
 |own ty sz els n'=>
  obtain⟨b,cc,arr,rfl,rfl,hh,ha,hlc,hmx,hes,hrd,hgb,hbb⟩:=hr
  simp[Nr] at h;obtain⟨rfl,rfl,rfl⟩:=h
  have:=hb 0 (b,cc) rfl
  rw[YN] at this
  refine⟨⟨b,cc,this,rfl⟩,⟨rfl,λl x hm=>?_,λl h1 h2=>⟨.row ty sz els ζ ζ,by grind⟩⟩⟩
  simp at hm;obtain⟨rfl,rfl⟩:=hm
  exact⟨⟨b,cc,arr,this,hh,ha,hlc,hmx,hes,cf (λ_ _=>rfl) hG rfl _ _ hrd,λ_=>hnF b hbb hgb,λh=>by cases h⟩,by omega,by omega⟩
 |nil=>
  obtain⟨rfl,hr⟩:=hr
  simp[Nr] at h;obtain⟨rfl,rfl,rfl⟩:=h
  exact⟨hr,⟨rfl,by simp,λl h1 h2=>by omega⟩⟩
omit hG hnF in
theorem GZ{b1 b2:Lac}(hb:∀(i:Nat) (p:Nat×Nat),(b1++b2)[i]?=ς p->E.r (nx+i)=ς p):
 (∀(i:Nat) (p:Nat×Nat),b1[i]?=ς p->E.r (nx+i)=ς p)/\∀(i:Nat) (p:Nat×Nat),b2[i]?=ς p->E.r (nx+b1.length+i)=ς p:=by
 refine⟨λi p hi=>hb i p ?_,λi p hi=>?_⟩
 .grind
 have:=hb (b1.length+i) p (by grind)
 grind
theorem HE:∀{rs:List RC} {us:Lae} {bs:Lac} {nx n:Nat} {cs:List C} {nw:Laa},HD nx rs=ς (cs,nw,n)->Do w G base rs us bs->(∀(i:Nat) (p:Nat×Nat),bs[i]?=ς p->E.r (nx+i)=ς p)->
 CV E w cs us/\Imp E w nx n bs nw
 |[],us,bs,nx,n,cs,nw,h,hr,hb=>by
  simp[HD] at h;obtain⟨rfl,rfl,rfl⟩:=h
  cases us with
  |nil=>have:bs=[]:=hr;subst this;exact⟨θ,⟨rfl,by simp,λl h1 h2=>by omega⟩⟩
  |cons _ _=>exact hr.elim
 |r::rs,us,bs,nx,n,cs,nw,h,hr,hb=>by
  cases us with
  |nil=>exact hr.elim
  |cons u us=>
   obtain⟨b1,b2,rfl,hr1,hr2⟩:=hr
   simp only[HD] at h
   split at h
   .rename_i c nw1 n1 h1
    split at h
    .rename_i cs2 nw2 n2 h2
     simp at h;obtain⟨rfl,rfl,rfl⟩:=h
     obtain⟨hb1,hb2⟩:=GZ hb
     obtain⟨k1,k2⟩:=Lq hG hnF h1 hr1 hb1
     have hn1:=k2.1
     subst hn1
     obtain⟨m1,m2⟩:=HE h2 hr2 hb2
     exact⟨⟨k1,m1⟩,k2.join m2⟩
    cases h
   cases h
theorem Lr{r:RV}{bs:Lac}{v:V}(h:Qm nx r=ς (v,nw,n))(hr:rvR w G base r u bs)(hb:∀(i:Nat) (p:Nat×Nat),bs[i]?=ς p->E.r (nx+i)=ς p):
 cvV E w v u/\Imp E w nx n bs nw:=by
 cases r with
 |c r=>
  simp only[Qm] at h
  split at h
  .rename_i h1;simp at h;obtain⟨rfl,rfl,rfl⟩:=h;exact Lq hG hnF h1 hr hb
  cases h
 |agg rs=>
  simp only[Qm] at h
  split at h
  .rename_i h1;simp at h;obtain⟨rfl,rfl,rfl⟩:=h
   obtain⟨arr,hu,hr⟩:=hr
   obtain⟨k1,k2⟩:=HE hG hnF h1 hr hb
   exact⟨⟨arr,hu,k1⟩,k2⟩
  cases h
theorem BT:∀{rs:List RV} {us:Lae} {bs:Lac} {nx n:Nat} {cs:List V} {nw:Laa},HF nx rs=ς (cs,nw,n)->Av w G base rs us bs->(∀(i:Nat) (p:Nat×Nat),bs[i]?=ς p->E.r (nx+i)=ς p)->
 VV E w cs us/\Imp E w nx n bs nw
 |[],us,bs,nx,n,cs,nw,h,hr,hb=>by
  simp[HF] at h;obtain⟨rfl,rfl,rfl⟩:=h
  cases us with
  |nil=>have:bs=[]:=hr;subst this;exact⟨θ,⟨rfl,by simp,λl h1 h2=>by omega⟩⟩
  |cons _ _=>exact hr.elim
 |r::rs,us,bs,nx,n,cs,nw,h,hr,hb=>by
  cases us with
  |nil=>exact hr.elim
  |cons u us=>
   obtain⟨b1,b2,rfl,hr1,hr2⟩:=hr
   simp only[HF] at h
   split at h
   .rename_i c nw1 n1 h1
    split at h
    .rename_i cs2 nw2 n2 h2
     simp at h;obtain⟨rfl,rfl,rfl⟩:=h
     obtain⟨hb1,hb2⟩:=GZ hb
     obtain⟨k1,k2⟩:=Lr hG hnF h1 hr1 hb1
     have hn1:=k2.1
     subst hn1
     obtain⟨m1,m2⟩:=BT h2 hr2 hb2
     exact⟨⟨k1,m1⟩,k2.join m2⟩
    cases h
   cases h
theorem wm{rs:List RV}{bs:Lac}{t:T}(h:xF nx rs=ς (t,nw,n))(hr:xL w G base rs u bs)(hb:∀(i:Nat) (p:Nat×Nat),bs[i]?=ς p->E.r (nx+i)=ς p):
 cvT E w t u/\Imp E w nx n bs nw:=by
 match rs,h,hr with
 |[r],h,hr=>
  simp only[xF] at h
  split at h
  .rename_i h1;simp at h;obtain⟨rfl,rfl,rfl⟩:=h;exact Lr hG hnF h1 hr hb
  cases h
 |[],h,hr=>
  simp only[xF] at h
  split at h
  .rename_i h1;simp at h;obtain⟨rfl,rfl,rfl⟩:=h
   obtain⟨arr,hu,hr⟩:=hr
   obtain⟨k1,k2⟩:=BT hG hnF h1 hr hb
   exact⟨⟨arr,hu,k1⟩,k2⟩
  cases h
 |r1::r2::rs,h,hr=>
  simp only[xF] at h
  split at h
  .rename_i h1;simp at h;obtain⟨rfl,rfl,rfl⟩:=h
   obtain⟨arr,hu,hr⟩:=hr
   obtain⟨k1,k2⟩:=BT hG hnF h1 hr hb
   exact⟨⟨arr,hu,k1⟩,k2⟩
  cases h
end
theorem Rn{G:Nat->Prop}{base:Nat}{r:RC}{bs:Lac}(h:rcR w G base r u bs):∀p∈bs,base<=p.1/\p.1<w.heap.size:=by
 cases r with
 |d x=>obtain⟨rfl,_⟩:=h;simp
 |own ty sz els n=>
  obtain⟨b,c,arr,rfl,_,hh,_,_,_,_,_,_,hb⟩:=h
  grind
 |nil=>obtain⟨rfl,_⟩:=h;simp
theorem Mb{w:World}{G:Nat->Prop}{base:Nat}:∀{rs:List RC} {us:Lae} {bs:Lac},Do w G base rs us bs->∀p∈bs,base<=p.1/\p.1<w.heap.size
 |[],[],bs,h=>by have:bs=[]:=h;simp_all
 |r::rs,u::us,bs,h=>λp hp=>by
  obtain⟨b1,b2,rfl,h1,h2⟩:=h
  rcases Ye.1 hp with h|h
  .exact Rn h1 p h
  exact Mb h2 p h
 |[],_::_,_,h=>h.elim
 |_::_,[],_,h=>h.elim
theorem RG{G:Nat->Prop}{base:Nat}{r:RV}{bs:Lac}(h:rvR w G base r u bs):∀p∈bs,base<=p.1/\p.1<w.heap.size:=by
 cases r with
 |c r=>exact Rn h
 |agg rs=>obtain⟨_,_,h⟩:=h;exact Mb h
theorem F8{w:World}{G:Nat->Prop}{base:Nat}:∀{rs:List RV} {us:Lae} {bs:Lac},Av w G base rs us bs->∀p∈bs,base<=p.1/\p.1<w.heap.size
 |[],[],bs,h=>by have:bs=[]:=h;simp_all
 |r::rs,u::us,bs,h=>λp hp=>by
  obtain⟨b1,b2,rfl,h1,h2⟩:=h
  rcases Ye.1 hp with h|h
  .exact RG h1 p h
  exact F8 h2 p h
 |[],_::_,_,h=>h.elim
 |_::_,[],_,h=>h.elim
theorem F6{G:Nat->Prop}{base:Nat}{rs:List RV}{bs:Lac}(h:xL w G base rs u bs):∀p∈bs,base<=p.1/\p.1<w.heap.size:=by
 match rs,h with
 |[r],h=>exact RG h
 |[],h=>obtain⟨_,_,h⟩:=h;exact F8 h
 |_::_::_,h=>obtain⟨_,_,h⟩:=h;exact F8 h
section
variable{P:Program}{N:Nat}{d:Tmp}{ty:TypeId}{ps:String}{af:Array Edge}{gd:Option (Nat×Bool)}{st:St}
def Env.after(E:Env)(nx:Nat)(bs:Lac)(G:Nat->Prop):Env:=
 ⟨λo=>if nx<=o/\o<nx+bs.length then bs[o-nx]? else E.r o,λb=>E.F b\/G b,λb=>E.G b\/G b,E.T,E.Z,E.n⟩
theorem DI{cx:Cx}{bs:Lac}{G:Nat->Prop}(ok:da cx E w)(hp:Da w w' (λ_=>False))(hG:∀b,G b->w.heap.size<=b/\b<w'.heap.size/\iV w' b)(hbs:∀p∈bs,w.heap.size<=p.1/\p.1<w'.heap.size)(hnd:(bs.map (·.1)).Nodup)(hfr:∀l,nx<=l->l<nx+bs.length->E.r l=ξ/\rsv l=η):
 da cx (E.after nx bs G) w'/\Ext E w (E.after nx bs G) w':=by
 have hsz:=hp.size
 have hws:=ok.size
 have hnew:∀o b c,(E.after nx bs G).r o=ς (b,c)->(nx<=o/\o<nx+bs.length/\bs[o-nx]?=ς (b,c))\/(E.r o=ς (b,c)):=by
  intro o b c h
  simp only[Env.after] at h
  split at h
  .simp_all
  exact .inr h
 refine⟨⟨λb hb=>?_,λb hb=>?_,λb hb=>?_,λo b c h=>?_,λo o' b c c' h h'=>?_,by rw[hp.os];exact ok.os,by rw[hp.tape];exact ok.tape,by rw[hp.output];exact ok.output,by omega,λb hb hW=>?_,λo x hx h=>?_,λb hb=>hb.elim (ok.ff b) (λh=>.inr (by grind)),
  λb hb hb'=>hb.elim (λh=>(ok.gc b h hb').of_eq (hp.block b (ok.fb b h) (λh=>h))) (λh=>(hG b h).2.2),
  ok.sf.grow rfl rfl (λb hb=>hb.elim .inl (λh=>.inr (hG b h).1)) (λo b c h=>by
   grind) hsz (λb hb=>hp.block b hb (λh=>h))⟩,
  ⟨λo x h=>?_,λb h=>.inl h,λb h=>.inl h,λb h=>?_,λb hb=>hp.block b hb (λh=>h),rfl,rfl,rfl⟩⟩
 .rcases hb with h|h
  .have:=ok.fb b h;omega
  simp_all
 .rcases hb with h|h
  .exact .inl (ok.gf b h)
  exact .inr h
 .rcases hb with h|h
  .exact ok.gn b h
  grind
 .rcases hnew o b c h with⟨_,_,h⟩|h
  .grind
  have:=ok.rb o b c h;grind
 .rcases hnew o b c h with⟨h1,h2,h3⟩|h3<;>rcases hnew o' b c' h' with⟨k1,k2,k3⟩|k3
  .have hi:o-nx<bs.length:=by omega
   have hj:o'-nx<bs.length:=by omega
   rcases Nat.lt_trichotomy (o-nx) (o'-nx) with hlt|heq|hlt
   .exfalso
    have:=YE.1 hnd (o-nx) (o'-nx) (by simp_all) (by simp_all) hlt
    simp_all
   .omega
   exfalso
   have:=YE.1 hnd (o'-nx) (o-nx) (by simp_all) (by simp_all) hlt
   simp_all
  .have h5:=hbs _ (Yd h3);have h6:=ok.rb o' b c' k3;omega
  .have h5:=hbs _ (Yd k3);have h6:=ok.rb o b c h3;omega
  exact ok.inj o o' b c c' h3 k3
 .rw[hp.block b oaa (λh=>h)];exact ok.block b hb hW
 .rcases hnew o x.1 x.2 h with⟨h1,h2,_⟩|h
  .rw[pk (hfr o h1 h2).2] at hx;cases hx
  exact ok.pin o x hx h
 .simp only[Env.after]
  grind
 rcases h with h|h
 .exact .inl h
 simp_all
theorem WL{f:FuncId}{args:List Operand}{tys:Array TypeId}{ts:List T}{avs:List AV}{eqs:Lac}(hl:ts.length=args.length)(ha:uf nob ts=ς (avs,eqs))(hF:Fn P f avs res)(he:Eqs eqs)(hi:xF nx res=ς (out,nw,n)):
 AWN P ⟨ς d,.call ⟨.value (.func f),args.toArray,tys⟩,ty,ps,af,gd⟩ (args.zip ts) nob out nw:=by
 intro cx E a w ok hn hb hfr
 have hob:∀l x,go nob l=ς x->cB E w l x:=λl x h=>hb l x (uR h)
 have hA:=Ez ok hob ha he hl hn
 have hFb:∀b,Br E nob b->b<w.heap.size:=by
  rintro b ((h|⟨l,x,c,h1,h2⟩)|⟨l,h⟩)
  .exact ok.fb b h
  .exact(ok.rb l b c h2).1
  exact(ok.sf.tb l b h).1.1
 have hc:=hF.calls (Br E nob) w (args.map a.eval).toArray hFb ok.tabs oaa
 have hent:=hF.enters (args.map a.eval).toArray w
 unfold Oper.wp
 have hrun:(execOp a.eval ⟨ς d,.call ⟨.value (.func f),args.toArray,tys⟩,ty,ps,af,gd⟩).run P w= .ok (.enter f (args.map a.eval).toArray) w:=by
  simp only[execOp,resolve,Act.eval,Deferred.ofValue,Sem.run_bind,Sem.run_pure,Result.andThen_ok,invoke]
  simpa using hent
 rw[hrun,Oper.upon_enter]
 refine hc.mono ?_
 rintro e w' ⟨v,G,bs,rfl,hp,hG,hres,hnd⟩
 have hbs:=F6 hres
 have hlen:∀l,nx<=l->l<nx+bs.length->E.r l=ξ/\rsv l=false:=by
  have himp:=wm (E:=⟨λo=>bs[o-nx]?,G,G,λ_ _=>False,λ_=>False,λ_=>False⟩) (λ_ h=>h) (λb _ h=>h) hi hres (λi p hi=>by simp_all)
  intro l h1 h2
  obtain⟨x,hx⟩:=himp.2.2.2 l h1 (by rw[himp.2.1];exact h2)
  exact hfr l x hx
 obtain⟨ok',ext⟩:=DI ok hp hG hbs hnd hlen
 have himp:=wm (E:=E.after nx bs G) (G:=G) (base:=w.heap.size) (λb h=>.inr h) (λb hb hng hF=>by
  rcases hF with h|h
  .have:=ok.fb b h;omega
  simp_all) hi hres (λi p hi=>by
   have:i<bs.length:=(Yc.1 hi).1
   simp only[Env.after];simp_all)
 refine⟨v,E.after nx bs G,rfl,ok',ext,himp.1,λl ob hm=>(himp.2.2.1 l ob hm).1,λl x hx=>?_⟩
 simp only[Env.after] at hx
 split at hx
 .rename_i hh;obtain⟨x,hx⟩:=himp.2.2.2 l hh.1 (by rw[himp.2.1];exact hh.2);grind
 simp_all
structure Inf where
 d:Tmp
 needs:List (Operand×T)
 nob:Laa
 out:T
 nw:Laa
def NS(P:Program)(N:Nat)(o:Oper)(st st':St)(x:Inf):Prop:=
 AWN P o x.needs x.nob x.out x.nw/\o.dst=ς x.d/\x.d<N/\Lk st.sl x.needs/\Lo st.ob x.nob/\Nw st.nx x.nw st'.nx/\st'=⟨(x.d,x.out)::st.sl,x.nw++st.ob,st'.nx⟩
theorem dh{o:Oper}{needs:List (Operand×T)}(h:AWN P o needs nob out nw)(hd:o.dst=ς d)(hN:nlt d N=ζ)(hn:Lk st.sl needs)(hb:Lo st.ob nob)(hw:Nw st.nx nw n):
 NS P N o st ⟨(d,out)::st.sl,nw++st.ob,n⟩ ⟨d,needs,nob,out,nw⟩:=⟨h,hd,cO hN,hn,hb,hw,rfl⟩
theorem QX{o:Oper}{st':St}{x:Inf}(h:NS P N o st st' x):AWO P N o st st':=by
 obtain⟨h1,h2,h3,h4,h5,h6,h7⟩:=h
 rw[h7]
 exact Jj h1 h2 h3 h4 h5 h6
theorem o6{ops:Array Oper}{l:List Oper}{o:Oper}{st':St}{x:Inf}{K:St->Prop}(hg:o.guard=ξ)(h:NS P N o st st' x)(h':AWR P N ops l st' K):AWR P N ops (o::l) st K:=eV hg (QX h) h'
theorem Bm{ops:Array Oper}{l:List Oper}{o:Oper}{st':St}{x:Inf}{K:St->Prop}(hg:o.guard=ς (j,b))(hj:(ops[j]?).bind (·.dst)=ς dj)(hdj:nlt dj N=ζ)(hb:gt st.sl dj=tB b)(h:NS P N o st st' x)(h':AWR P N ops l st' K):AWR P N ops (o::l) st K:=fX hg hj (cO hdj) hb (QX h) h'
def DS(P:Program)(N:Nat)(ops:Array Oper)(o:Oper)(st st':St)(x:Inf):Prop:=
 (o.guard=ξ/\NS P N o st st' x)\/
 (∃j dj b y,o.guard=ς (j,b)/\(ops[j]?).bind (·.dst)=ς dj/\dj<N/\gt st.sl dj=tB b/\NS P N o st st' y/\x={y with needs:=(.tmp dj,tB b)::y.needs})\/
 (∃j dj b d,o.guard=ς (j,b)/\(ops[j]?).bind (·.dst)=ς dj/\dj<N/\noG b (gt st.sl dj)=ζ/\o.dst=ς d/\d<N/\x=⟨d,[(.tmp dj,gt st.sl dj)],[],.tup [],[]⟩/\st'=⟨(d,.tup [])::st.sl,st.ob,st.nx⟩)
def rJ(s t:St):Prop:=(∀k,gt s.sl k=gt t.sl k)/\s.ob=t.ob/\s.nx=t.nx
def DR(P:Program)(N:Nat)(ops:Array Oper):List Oper->List Inf->St->(List Inf->St->Prop)->Prop
 |[],is,st,K=>K is st
 |o::r,is,st,K=>∃x st1 st',DS P N ops o st st1 x/\rJ st1 st'/\DR P N ops r (is++[x]) st' K
section
variable{ops:Array Oper}{l:List Oper}{o:Oper}{st':St}{x:Inf}{K:List Inf->St->Prop}{is:List Inf}
theorem Wl(h:K is st):DR P N ops [] is st K:=h
theorem rJ.refl(s:St):rJ s s:=⟨λ_=>rfl,rfl,rfl⟩
theorem Wk(hg:o.guard=ξ)(h:NS P N o st st' x)(h':DR P N ops l (is++[x]) st' K):DR P N ops (o::l) is st K:=⟨x,st',st',.inl ⟨hg,h⟩,.refl _,h'⟩
theorem PG(hg:o.guard=ς (j,b))(hj:(ops[j]?).bind (·.dst)=ς dj)(hdj:nlt dj N=ζ)(hb:gt st.sl dj=tB b)(h:NS P N o st st' x)(h':DR P N ops l (is++[{x with needs:=(.tmp dj,tB b)::x.needs}]) st' K):DR P N ops (o::l) is st K:=⟨_,st',st',.inr (.inl ⟨j,dj,b,x,hg,hj,cO hdj,hb,h,rfl⟩),.refl _,h'⟩
theorem T0{d:Tmp}(hg:o.guard=ς (j,b))(hj:(ops[j]?).bind (·.dst)=ς dj){t:T}(hdj:nlt dj N=ζ)(ht:gt st.sl dj=t)(hb:noG b t=ζ)(hd:o.dst=ς d)(hN:nlt d N=ζ)(h':DR P N ops l (is++[⟨d,[(.tmp dj,t)],[],.tup [],[]⟩]) ⟨(d,.tup [])::st.sl,st.ob,st.nx⟩ K):DR P N ops (o::l) is st K:=
 ⟨_,_,_,.inr (.inr ⟨j,dj,b,d,hg,hj,cO hdj,by simp_all,hd,cO hN,by rw[ht],rfl⟩),.refl _,h'⟩
theorem rf{d:Tmp}{c:Bool}(hb:gt st.sl d=tB b)(h:b=c):rJ st ⟨(d,tB c)::st.sl,st.ob,st.nx⟩:=by
 refine⟨λk=>?_,rfl,rfl⟩
 by_cases hk:d=k
 .subst hk;rw[cW,hb,h]
 rw[cy _ _ hk]
end
end
theorem qa{s t:Lab}(h:∀k,gt s k=gt t k)(x:Operand):opT s x=opT t x:=by
 cases x with
 |tmp k=>exact h k
 |const v=>cases v<;>rfl
 |_=>rfl
theorem EM{s t:Lab}(h:∀k,gt s k=gt t k):∀{l:List (Operand×T)},Lk s l->Lk t l
 |[],_=>trivial
 |(x,v)::r,hl=>⟨by rw[<-qa h];exact hl.1,EM h hl.2⟩
section
variable{P:Program}{N:Nat}{ops:Array Oper}{l:List Oper}{o:Oper}{st st' st2:St}{K:List Inf->St->Prop}{is:List Inf}
theorem Iw{s t:St}(h:rJ s t)(d:Tmp)(v:T)(nw:Laa)(n:Nat):rJ ⟨(d,v)::s.sl,nw++s.ob,n⟩ ⟨(d,v)::t.sl,nw++t.ob,n⟩:=by
 refine⟨λk=>?_,by rw[h.2.1],rfl⟩
 by_cases hk:d=k
 .subst hk;rw[cW,cW]
 rw[cy _ _ hk,cy _ _ hk];exact h.1 k
theorem rJ.trans{a b c:St}(h:rJ a b)(k:rJ b c):rJ a c:=⟨λi=>(h.1 i).trans (k.1 i),h.2.1.trans k.2.1,h.2.2.trans k.2.2⟩
theorem LV{x:Inf}(h:rJ st st2)(hn:NS P N o st2 st' x):∃s',NS P N o st s' x/\rJ s' st':=by
 obtain⟨h1,h2,h3,h4,h5,h6,h7⟩:=hn
 refine⟨⟨(x.d,x.out)::st.sl,x.nw++st.ob,st'.nx⟩,⟨h1,h2,h3,EM (λk=>(h.1 k).symm) h4,by rw[h.2.1];exact h5,by rw[h.2.2];exact h6,rfl⟩,?_⟩
 rw[h7]
 exact Iw h _ _ _ _
theorem K6(h:rJ st st2)(hd:DR P N ops (o::l) is st2 K):DR P N ops (o::l) is st K:=by
 obtain⟨x,st1,st',hds,hs,hr⟩:=hd
 rcases hds with⟨hg,hn⟩|⟨j,dj,b,y,hg,hj,hdj,hb,hn,rfl⟩|⟨j,dj,b,d,hg,hj,hdj,hb,hd,hN,rfl,rfl⟩
 .obtain⟨s',k1,k2⟩:=LV h hn
  exact⟨x,s',st',.inl ⟨hg,k1⟩,k2.trans hs,hr⟩
 .obtain⟨s',k1,k2⟩:=LV h hn
  exact⟨_,s',st',.inr (.inl ⟨j,dj,b,y,hg,hj,hdj,by rw[h.1];exact hb,k1,rfl⟩),k2.trans hs,hr⟩
 refine⟨_,⟨(d,.tup [])::st.sl,st.ob,st.nx⟩,st',.inr (.inr ⟨j,dj,b,d,hg,hj,hdj,by rw[h.1];exact hb,hd,hN,by rw[h.1],rfl⟩),rJ.trans ?_ hs,hr⟩
 have:=Iw h d (.tup []) [] st.nx
 refine⟨this.1,this.2.1,h.2.2⟩
theorem PH{d:Tmp}(hb:gt st.sl d=tB b)(h1:b=ζ->DR P N ops (o::l) is ⟨(d,tB ζ)::st.sl,st.ob,st.nx⟩ K)(h0:b=η->DR P N ops (o::l) is ⟨(d,tB η)::st.sl,st.ob,st.nx⟩ K):DR P N ops (o::l) is st K:=by
 cases hc:b with
 |true=>exact K6 (rf hb hc) (h1 hc)
 |false=>exact K6 (rf hb hc) (h0 hc)
end
def iS:List (Operand×T)->List Nat
 |[]=>[]
 |(.tmp k,_)::r=>k::iS r
 |_::r=>iS r
def anc(ops:Array Oper):Nat->Nat->Nat->Bool
 |0,_,_=>η
 |n+1,i,j=>match ops[i]? with
  |none=>η
  |some o=>o.after.toList.any λe=>Region.binds .any e&&(f4 e.on j||anc ops n e.on j)
def rY(is:List Inf)(k:Nat):Option Nat:=is.findIdx? λx=>f4 x.d k
def QD(is:List Inf)(l:Nat):Option Nat:=is.findIdx? λx=>x.nw.any λp=>f4 p.1 l
def pS:List Inf->Bool
 |[]=>ζ
 |x::xs=>!(xs.any λy=>f4 x.d y.d)&&pS xs
def xB(ops:Array Oper)(is:List Inf)(nx:Nat):Bool:=
 f4 is.length ops.size&&pS is&&
 (v0 is.length).all λi=>match is[i]?,ops[i]? with
  |some x,ς o=>
   (o.after.toList.all λe=>!Region.binds .any e||nlt e.on i)&&
   ((iS x.needs).all λk=>match rY is k with
    |none=>ζ
    |some j=>if nlt j i then anc ops is.length i j else f4 i j||anc ops is.length j i)&&
   (x.nob.all λp=>nlt p.1 nx||match QD is p.1 with
    |none=>η
    |some j=>anc ops is.length i j)
  |_,_=>η
def after(base:St):List Inf->Lab×Laa
 |is=>(is.foldl (λs x=>(x.d,x.out)::s) base.sl,is.foldl (λs x=>x.nw++s) base.ob)
def s9(base:St)(is:List Inf):Lab:=is.foldl (λs x=>(x.d,x.out)::s) base.sl
def Dn(base:St)(is:List Inf):Laa:=is.foldl (λs x=>x.nw++s) base.ob
theorem wH(base:St)(is:List Inf)(x:Inf):s9 base (is++[x])=(x.d,x.out)::s9 base is:=by simp[s9]
theorem D3(base:St)(is:List Inf)(x:Inf):Dn base (is++[x])=x.nw++Dn base is:=by simp[Dn]
def V8(P:Program)(N:Nat)(ops:Array Oper)(base:St)(pre:List Inf)(o:Oper)(x:Inf):Prop:=
 (∀y t,(y,t)∈x.needs->opT (s9 base pre) y=t)/\(∀l ob,(l,ob)∈x.nob->go (Dn base pre) l=ς ob)/\o.dst=ς x.d/\x.d<N/\
 ((o.guard=ξ/\AWN P o x.needs x.nob x.out x.nw)\/
  (∃j dj b ys,o.guard=ς (j,b)/\(ops[j]?).bind (·.dst)=ς dj/\dj<N/\x.needs=(.tmp dj,tB b)::ys/\AWN P o ys x.nob x.out x.nw)\/
  (∃j dj b t,o.guard=ς (j,b)/\(ops[j]?).bind (·.dst)=ς dj/\dj<N/\x.needs=[(.tmp dj,t)]/\noG b t=ζ/\x.out= .tup []/\x.nw=[]))
def eU(nx:Nat):List Inf->Nat->Prop
 |[],n=>n=nx
 |x::xs,n=>∃m,Nw nx x.nw m/\eU m xs n
theorem eU.snoc{x:Inf}:∀{is:List Inf} {nx n m:Nat},eU nx is n->Nw n x.nw m->eU nx (is++[x]) m
 |[],nx,n,m,h,h'=>by have:n=nx:=h;subst this;exact⟨m,h',rfl⟩
 |y::ys,nx,n,m,⟨k,h1,h2⟩,h'=>⟨k,h1,eU.snoc h2 h'⟩
theorem K7{P:Program}{N:Nat}{ops:Array Oper}{base:St}{K:List Inf->St->Prop}:∀{l:List Oper} {is:List Inf} {st:St},DR P N ops l is st K->(∀k,gt st.sl k=gt (s9 base is) k)->st.ob=Dn base is->eU base.nx is st.nx->
 ∃xs st',xs.length=l.length/\(∀(i:Nat) (o:Oper) (x:Inf),l[i]?=ς o->xs[i]?=ς x->V8 P N ops base (is++xs.take i) o x)/\eU base.nx (is++xs) st'.nx/\(∀k,gt st'.sl k=gt (s9 base (is++xs)) k)/\st'.ob=Dn base (is++xs)/\K (is++xs) st'
 |[],is,st,h,h1,h2,h3=>⟨[],st,rfl,by simp,by simp_all,by simp_all,by simp_all,by simpa [DR] using h⟩
 |o::l,is,st,⟨x,st1,st2,hds,hsame,hr⟩,h1,h2,h3=>by
  have hput:∀(out:T) (nw:Laa) (n:Nat),x.out=out->x.nw=nw->st1=⟨(x.d,out)::st.sl,nw++st.ob,n⟩->Nw st.nx nw n->((∀k,gt st2.sl k=gt (s9 base (is++[x])) k)/\st2.ob=Dn base (is++[x]))/\eU base.nx (is++[x]) st2.nx:=by
   rintro out nw n rfl rfl rfl hnw
   refine⟨⟨λk=>?_,?_⟩,?_⟩
   .rw[<-hsame.1 k,wH]
    by_cases hk:x.d=k
    .rw[hk,cW,cW]
    rw[cy _ _ hk,cy _ _ hk];exact h1 k
   .rw[<-hsame.2.1,D3,h2]
   rw[<-hsame.2.2];exact h3.snoc hnw
  have key:V8 P N ops base is o x/\((∀k,gt st2.sl k=gt (s9 base (is++[x])) k)/\st2.ob=Dn base (is++[x]))/\eU base.nx (is++[x]) st2.nx:=by
   rcases hds with⟨hg,k1,k2,k3,k4,k5,k6,k7⟩|⟨j,dj,b,y,hg,hj,hdj,hb,⟨k1,k2,k3,k4,k5,k6,k7⟩,rfl⟩|⟨j,dj,b,d,hg,hj,hdj,hb,hd,hN,rfl,rfl⟩
   .exact⟨⟨λy t hm=>by rw[<-qa h1];exact Lk.mem k4 y t hm,λl' ob hm=>by rw[<-h2];exact Lo.mem k5 l' ob hm,k2,k3,.inl ⟨hg,k1⟩⟩,hput _ _ _ rfl rfl k7 k6⟩
   .refine⟨⟨λy' t hm=>?_,λl' ob hm=>by rw[<-h2];exact Lo.mem k5 l' ob hm,k2,k3,.inr (.inl ⟨j,dj,b,y.needs,hg,hj,hdj,rfl,k1⟩)⟩,hput _ _ _ rfl rfl k7 k6⟩
    rw[<-qa h1]
    rcases Yh.1 hm with e|hm
    .cases e;exact hb
    exact Lk.mem k4 y' t hm
   refine⟨⟨λy' t hm=>?_,by simp,hd,hN,.inr (.inr ⟨j,dj,b,_,hg,hj,hdj,rfl,hb,rfl,rfl⟩)⟩,hput (.tup []) [] st.nx rfl rfl rfl rfl⟩
   rw[<-qa h1]
   simp at hm;obtain⟨rfl,rfl⟩:=hm;rfl
  obtain⟨hT,⟨m1,m2⟩,m3⟩:=key
  obtain⟨xs,st',n1,n2,n3,n4,n5,n6⟩:=K7 hr m1 m2 m3
  refine⟨x::xs,st',by simp[n1],λi o' x' hi hx=>?_,by simp_all,by simp_all,by simp_all,by simp_all⟩
  cases i with
  |zero=>simp_all
  |succ i=>simp_all
theorem Gv{p:List α->Prop}(h0:p [])(h1:∀l x,p l->p (l++[x]))(l:List α):p l:=by
 have key:∀l:List α,p l.reverse:=by
  intro l
  induction l with
  |nil=>exact h0
  |cons x l ih=>simp_all
 have:=key l.reverse
 simp_all
theorem pO{ops:Array Oper}{listed:Array Bool}(hc:∀i o,ops[i]?=ς o->listed.getD i η=ζ->∀e∈o.after,Region.binds .any e=ζ->listed.getD e.on η=ζ):
 ∀(n i j:Nat),anc ops n i j=ζ->(∃o,ops[i]?=ς o/\∀e∈o.after,Region.binds .any e=ζ->listed.getD e.on η=ζ)->listed.getD j η=ζ
 |0,i,j,h,_=>by simp[anc] at h
 |n+1,i,j,h,⟨o,ho,hd⟩=>by
  simp only[anc,ho,YF,hV,Yw] at h
  obtain⟨e,he,hb,h⟩:=h
  have hl:=hd e (by simp_all) hb
  rcases h with h|h
  .rw[<-Yf h];exact hl
  cases ho':ops[e.on]? with
  |none=>cases n<;>simp[anc,ho'] at h
  |some o'=>exact pO hc n e.on j h ⟨o',ho',hc e.on o' ho' hl⟩
theorem pT:∀{is:List Inf},pS is=ζ->∀(i j:Nat) (x y:Inf),is[i]?=ς x->is[j]?=ς y->x.d=y.d->i=j
 |[],_,i,j,x,y,h,_,_=>by simp at h
 |z::is,h,i,j,x,y,hi,hj,he=>by
  simp only[pS,hV,Yz] at h
  have hno:∀(k:Nat) (v:Inf),is[k]?=ς v->z.d≠v.d:=λk v hk e=>by
   have:(is.any λy=>f4 z.d y.d)=true:=YF.2 ⟨v,Yd hk,by simp[e]⟩
   grind
  cases i with
  |zero=>
   grind
  |succ i=>
   cases j with
   |zero=>grind
   |succ j=>have:=pT h.2 i j x y (by simp_all) (by simp_all) he;omega
theorem wG{base:St}:∀(is:List Inf) (k:Nat),(∀x∈is,x.d≠k)->gt (s9 base is) k=gt base.sl k:=by
 intro is
 refine Gv (p:=λis=>∀(k:Nat),(∀x∈is,x.d≠k)->gt (s9 base is) k=gt base.sl k) ?_ ?_ is
 .intro k _;rfl
 intro is x ih k h
 rw[wH,cy _ _ (h x (by simp))]
 simp_all
theorem ue{base:St}:∀(is:List Inf) (i:Nat) (x:Inf),is[i]?=ς x->(∀(j:Nat) (y:Inf),is[j]?=ς y->y.d=x.d->j=i)->gt (s9 base is) x.d=x.out:=by
 intro is
 refine Gv (p:=λis=>∀(i:Nat) (x:Inf),is[i]?=ς x->(∀(j:Nat) (y:Inf),is[j]?=ς y->y.d=x.d->j=i)->gt (s9 base is) x.d=x.out) ?_ ?_ is
 .simp_all
 intro is z ih i x h hu
 rw[wH]
 by_cases hi:i<is.length
 .rw[Yt hi] at h
  have hz:z.d≠x.d:=λe=>by
   simp_all
  rw[cy _ _ hz]
  exact ih i x h λj y hj he=>hu j y (by grind) he
 rw[Ys oaa] at h
 have:i-is.length=0:=by
  rcases Nat.eq_zero_or_pos (i-is.length) with h0|h0
  .exact h0
  grind
 rw[this] at h;simp at h;subst h
 exact cW _ _ _
theorem Lh{base:St}:∀(is:List Inf) (l:Nat) (ob:Ob),go (Dn base is) l=ς ob->(∃(j:Nat) (x:Inf),is[j]?=ς x/\(l,ob)∈x.nw)\/go base.ob l=ς ob:=by
 intro is
 refine Gv (p:=λis=>∀(l:Nat) (ob:Ob),go (Dn base is) l=ς ob->(∃(j:Nat) (x:Inf),is[j]?=ς x/\(l,ob)∈x.nw)\/go base.ob l=ς ob) ?_ ?_ is
 .intro l ob h;exact .inr h
 intro is z ih l ob h
 rw[D3] at h
 rcases zE h with h|h
 .exact .inl ⟨is.length,z,by simp,h⟩
 rcases ih l ob h with⟨j,x,h1,h2⟩|h
 .exact .inl ⟨j,x,by grind,h2⟩
 simp_all
theorem ku:∀{is:List Inf} {nx n:Nat},eU nx is n->nx<=n/\∀(j:Nat) (x:Inf) (l:Nat) (ob:Ob),is[j]?=ς x->(l,ob)∈x.nw->nx<=l/\l<n
 |[],nx,n,h=>⟨by have:n=nx:=h;omega,by simp⟩
 |y::ys,nx,n,⟨m,h1,h2⟩=>by
  obtain⟨a1,a2⟩:=Nw.mem h1
  obtain⟨b1,b2⟩:=ku h2
  grind
theorem LX:∀{nw:Laa} {nx n:Nat},Nw nx nw n->∀l x y,(l,x)∈nw->(l,y)∈nw->x=y
 |[],_,_,_,l,x,y,h,_=>by simp at h
 |(k,z)::r,nx,n,h,l,x,y,h1,h2=>by
  rw[Nw] at h
  have hr:=(Nw.mem h.2).2
  rcases Yh.1 h1 with e1|h1<;>rcases Yh.1 h2 with e2|h2
  .simp_all
  .grind
  .grind
  exact LX h.2 l x y h1 h2
theorem B0:∀{is:List Inf} {nx n:Nat},eU nx is n->∀(j:Nat) (x:Inf) (l:Nat) (ob:Ob),is[j]?=ς x->(l,ob)∈x.nw->rsv l=η
 |[],_,_,_,_,_,_,_,h,_=>by simp at h
 |y::ys,nx,n,⟨m,h1,h2⟩,0,x,l,ob,hx,hm=>by
  simp at hx;subst hx
  exact((Nw.mem h1).2 l ob hm).2.2
 |y::ys,nx,n,⟨m,h1,h2⟩,j+1,x,l,ob,hx,hm=>B0 h2 j x l ob (by simp_all) hm
theorem wu:∀{is:List Inf} {nx n:Nat},eU nx is n->∀(j j':Nat) (x x':Inf) (l:Nat) (ob ob':Ob),is[j]?=ς x->is[j']?=ς x'->(l,ob)∈x.nw->(l,ob')∈x'.nw->j=j'/\ob=ob'
 |[],nx,n,h,j,j',x,x',l,ob,ob',h1,_,_,_=>by simp at h1
 |y::ys,nx,n,⟨m,h1,h2⟩,j,j',x,x',l,ob,ob',hj,hj',hm,hm'=>by
  have a2:=(Nw.mem h1).2
  have b2:=(ku h2).2
  cases j with
  |zero=>
   cases j' with
   |zero=>simp at hj hj';subst hj;subst hj';exact⟨rfl,LX h1 l ob ob' hm hm'⟩
   |succ j'=>grind
  |succ j=>
   cases j' with
   |zero=>grind
   |succ j'=>have:=wu h2 j j' x x' l ob ob' (by simp_all) (by simp_all) hm hm';simp_all
structure Inv(P:Program)(N:Nat)(cx:Cx)(base:St)(is:List Inf)(listed:Array Bool)(a:Act)(w:World)(E:Env):Prop where
 ok:da cx E w
 dom:∀l x,E.r l=ς x->l<base.nx\/∃j y ob,listed.getD j η=ζ/\is[j]?=ς y/\(l,ob)∈y.nw
 obs:∀l ob,go base.ob l=ς ob->cB E w l ob
 new:∀j y l ob,listed.getD j η=ζ->is[j]?=ς y->(l,ob)∈y.nw->cB E w l ob
 out:∀j y,listed.getD j η=ζ->is[j]?=ς y->cvT E w y.out (a.tmps.getD y.d undef)
 old:∀k,(∀j y,listed.getD j η=ζ->is[j]?=ς y->y.d≠k)->cvT E w (gt base.sl k) (a.tmps.getD k undef)
 dfr:a.defers=[]
 size:a.tmps.size=N
 td:∀l b,E.T l b->l<base.nx
theorem cF{listed:Array Bool}{i:Nat}(hi:i<listed.size):(listed.setIfInBounds i ζ).getD j η=if i=j then ζ else listed.getD j false:=by
 by_cases h:i=j
 .simp_all
 simp_all
section
variable{P:Program}{N:Nat}{cx:Cx}{ops:Array Oper}{base:St}{is:List Inf}{Q:Exit->Act->World->Prop}
theorem Qr{listed:Array Bool}(hI:Inv P N cx base is listed a w E){nmax:Nat}(hlab:eU base.nx is nmax)(hdst:pS is=ζ){i:Nat}{x:Inf}(hx:is[i]?=ς x)(hil:i<listed.size)(hun:listed.getD i η=η)(hdN:x.d<N){v:Value}(ok':da cx E' w')(ext:Ext E w E' w')(hv:cvT E' w' x.out v)(hnw:∀l ob,(l,ob)∈x.nw->cB E' w' l ob)(hdom:∀l y,E'.r l=ς y->E.r l=ς y\/∃ob,(l,ob)∈x.nw):Inv P N cx base is (listed.setIfInBounds i ζ) (a.put (ς x.d) v) w' E':=by
 have hk:=jV.of_ext hI.ok ext
 have hd':∀j y,is[j]?=ς y->j≠i->y.d≠x.d:=λj y hj hne he=>hne (pT hdst j i y x hj hx he)
 refine⟨ok',λl y hl=>?_,λl ob hl=>zP hI.ok ext (hI.obs l ob hl),λj y l ob hj hy hm=>?_,λj y hj hy=>?_,λk hkk=>?_,hI.dfr,by simpa [Act.put] using hI.size,λl b h=>hI.td l b (by rw[<-ext.T];exact h)⟩
 .rcases hdom l y hl with h|⟨ob,h⟩
  .rcases hI.dom l y h with h|⟨j,z,ob,h1,h2,h3⟩
   .exact .inl h
   refine .inr ⟨j,z,ob,?_,h2,h3⟩
   rw[cF hil];simp_all
  exact .inr ⟨i,x,ob,by simp_all,hx,h⟩
 .by_cases hji:i=j
  .simp_all
  rw[cF hil,if_neg hji] at hj;exact zP hI.ok ext (hI.new j y l ob hj hy hm)
 .by_cases hji:i=j
  .subst hji;rw[hx] at hy;cases hy
   rw[gu (by rw[hI.size];exact hdN),if_pos rfl];exact hv
  rw[cF hil,if_neg hji] at hj
  rw[gu (by rw[hI.size];exact hdN),if_neg (Ne.symm (hd' j y hy (Ne.symm hji)))]
  exact jM hk (hI.out j y hj hy)
 have hxk:x.d≠k:=hkk i x (by simp_all) hx
 rw[gu (by rw[hI.size];exact hdN),if_neg hxk]
 refine jM hk (hI.old k λj y hj hy=>hkk j y ?_ hy)
 rw[cF hil];simp_all
theorem KJ(hN:is.length=ops.size){nmax:Nat}(hlab:eU base.nx is nmax)(hdst:pS is=ζ)(hbk:∀l ob,go base.ob l=ς ob->l<base.nx)(hedge:∀i o,ops[i]?=ς o->∀e∈o.after,Region.binds .any e=ζ->e.on<i)(hslot:∀i x,is[i]?=ς x->∀k∈iS x.needs,∀j,rY is k=ς j->if nlt j i then anc ops is.length i j=ζ else(i=j\/anc ops is.length j i=ζ))(hobj:∀i x,is[i]?=ς x->∀p∈x.nob,p.1<base.nx\/∃j,QD is p.1=ς j/\anc ops is.length i j=ζ)(htold:∀(i:Nat) (o:Oper) (x:Inf),ops[i]?=ς o->is[i]?=ς x->V8 P N ops base (is.take i) o x)(hfin:∀listed a w E,(∀j,j<ops.size->listed.getD j η=ζ)->Inv P N cx base is listed a w E->Q .normal a w):
 ∀(fuel:Nat) (listed:Array Bool) (a:Act) (w:World) (E:Env),listed.size=ops.size->((v0 ops.size).filter λi=>!listed.getD i η).length=fuel->
  (∀i o,ops[i]?=ς o->listed.getD i η=ζ->∀e∈o.after,Region.binds .any e=ζ->listed.getD e.on η=ζ)->Inv P N cx base is listed a w E->wpAny P .any ops Q fuel listed a w:=by
 have hall:∀(listed:Array Bool),((v0 ops.size).filter λi=>!listed.getD i η).length=0->∀j,j<ops.size->listed.getD j η=true:=by
  intro listed h j hj
  have:=YD h
  have h2:=List.filter_eq_nil_iff.1 this j (by simp_all)
  simpa using h2
 intro fuel
 induction fuel with
 |zero=>
  intro listed a w E hsz hc hcl hI
  have hal:=hall listed hc
  refine⟨?_,hfin listed a w E hal hI⟩
  rw[List.eq_nil_iff_forall_not_mem]
  intro i hi
  obtain⟨h1,o,h2,h3⟩:=mem_ready.1 hi
  grind
 |succ fuel ih=>
  intro listed a w E hsz hc hcl hI
  refine⟨λh0=>?_,λi hi=>?_⟩
  .
    exfalso
    have hex:∃i,i<ops.size/\listed.getD i η=false:=by
     have:((v0 ops.size).filter λi=>!listed.getD i η)≠[]:=λe=>by grind
     obtain⟨i,hi⟩:=List.exists_mem_of_ne_nil _ this
     simp only[List.mem_filter,List.mem_range,Yz] at hi
     exact⟨i,hi.1,hi.2⟩
    have hmin:∀n i,i<=n->i<ops.size->listed.getD i η=η->∃i,i∈Region.ready .any ops listed:=by
     intro n
     induction n using YW with
     |_ n ihn=>
      intro i hin his hif
      by_cases hd:∀e∈ops[i].after,Region.binds .any e=ζ->listed.getD e.on η=ζ
      .refine⟨i,mem_ready.2 ⟨?_,ops[i],YC his,hd⟩⟩
       grind
      simp only[Classical.not_forall] at hd
      obtain⟨e,he,hb,hne⟩:=hd
      have hlt:=hedge i ops[i] (YC his) e he hb
      exact ihn e.on oaa e.on (Yj _) oaa (by grind)
    obtain⟨i,h1,h2⟩:=hex
    obtain⟨j,hj⟩:=hmin i i (Yj _) h1 h2
    grind
  obtain⟨h1,o,ho,hd⟩:=mem_ready.1 hi
  have hio:i<ops.size:=by
   rcases Yx i ops.size with h|h
   .exact h
   grind
  have hun:listed.getD i η=false:=by
   rw[Array.getD_eq_getD_getElem?,YC oaa] at h1 ⊢
   simpa using h1
  obtain⟨x,hx⟩:∃x,is[i]?=ς x:=⟨_,Yb oaa⟩
  obtain⟨t1,t2,t3,t4,t5⟩:=htold i o x ho hx
  have hanc:∀j,anc ops is.length i j=ζ->listed.getD j η=true:=λj hj=>pO hcl _ i j hj ⟨o,ho,hd⟩
  have hneeds:∀y t,(y,t)∈x.needs->cvT E w t (a.eval y):=by
   intro y t hm
   have ht:=t1 y t hm
   cases y with
   |tmp k=>
    have hks:k∈iS x.needs:=by
     have key:∀(l:List (Operand×T)),(Operand.tmp k,t)∈l->k∈iS l:=by
      intro l
      induction l with
      |nil=>grind
      |cons p r ihl=>
       intro h
       rcases Yh.1 h with e|h
       .rw[<-e];simp[iS]
       have h9:=ihl h;obtain⟨z,u⟩:=p;cases z<;>simp[iS,h9]
     exact key _ hm
    show cvT E w t (a.tmps.getD k undef)
    have ht':gt (s9 base (is.take i)) k=t:=ht
    cases hw:rY is k with
    |none=>
     have hno:∀z∈is,z.d≠k:=by
      intro z hz e
      have:=YU.1 hw z hz
      rw[e] at this;simp at this
     rw[wG _ _ (λz hz=>hno z (YG hz))] at ht'
     rw[<-ht']
     exact hI.old k λj y _ hy=>hno y (Yd hy)
    |some j=>
     have hs:=hslot i x hx k hks j hw
     obtain⟨hjl,hjp,_⟩:=YR.1 hw
     have hjd:is[j].d=k:=Yf hjp
     have hju:∀j' y,is[j']?=ς y->y.d=k->j'=j:=λj' y hy he=>pT hdst j' j y is[j] hy (Yb hjl) (by rw[he,hjd])
     by_cases hji:j<i
     .rw[if_pos (by simp[nlt];omega)] at hs
      have hdone:=hanc j hs
      have:=hI.out j is[j] hdone (Yb hjl)
      rw[hjd] at this
      have h9:=ue (base:=base) (is.take i) j is[j] (by grind) (λj' y hy he=>hju j' y (by grind) (by rw[he,hjd]))
      grind
     rw[if_neg (by simp[nlt];omega)] at hs
     rw[wG _ _ (λz hz e=>by
      obtain⟨j',hj'⟩:=Yn hz
      grind)] at ht'
     rw[<-ht']
     refine hI.old k λj' y hj' hy he=>?_
     have hjj:=hju j' y hy he
     subst hjj
     rcases hs with rfl|hs
     .grind
     have:listed.getD i η=true:=pO hcl _ j' i hs (by
      grind)
     grind
   |const v=>have:=(show Rel N cx E ⟨[],[],base.nx⟩ a w->cvT E w (opT [] (.const v)) (a.eval (.const v)) from λh=>h.op _);rw[<-ht];cases v<;>simp only[opT,Act.eval,cvT,cvV]<;>first|exact vZ E w _|exact⟨_,rfl,rZ E w _⟩|(simp only[cvC,rdD])
   |func f=>rw[<-ht];rfl
   |global g=>rw[<-ht];trivial
  have hnob:∀l ob,(l,ob)∈x.nob->cB E w l ob:=by
   intro l ob hm
   have hgo:=t2 l ob hm
   rcases Lh _ _ _ hgo with⟨j,y,hj,hy⟩|h
   .rw[YK] at hj
    split at hj
    .rename_i hji
     have hlr:=(ku hlab).2 j y l ob hj hy
     rcases hobj i x hx (l,ob) hm with h|⟨j',hj',hanc'⟩
     .omega
     obtain⟨hjl,hjp,_⟩:=YR.1 hj'
     obtain⟨p,hp1,hp2⟩:=YF.1 hjp
     obtain⟨pl,pob⟩:=p
     have hpl:pl=l:=Yf hp2
     subst hpl
     have:=wu hlab j j' y is[j'] pl ob pob hj (Yb hjl) hy hp1
     exact hI.new j y pl ob (by grind) hj hy
    cases hj
   exact hI.obs l ob h
  have hfresh:∀l ob,(l,ob)∈x.nw->E.r l=none:=by
   intro l ob hm
   cases hr:E.r l with
   |none=>rfl
   |some p=>
    have hlr:=(ku hlab).2 i x l ob hx hm
    rcases hI.dom l p hr with h|⟨j,y,ob',h1,h2,h3⟩
    .omega
    have:=(wu hlab i j x y l ob ob' hx h2 hm h3).1
    grind
  have hnext:∀v E' w',da cx E' w'->Ext E w E' w'->cvT E' w' x.out v->(∀l ob,(l,ob)∈x.nw->cB E' w' l ob)->(∀l y,E'.r l=ς y->E.r l=ς y\/∃ob,(l,ob)∈x.nw)->
   wpAny P .any ops Q fuel (listed.setIfInBounds i ζ) (a.put (ς x.d) v) w':=by
   intro v E' w' k1 k2 k3 k4 k5
   refine ih _ _ _ E' (by grind) ?_ ?_ (Qr hI hlab hdst hx oaa hun t4 k1 k2 k3 k4 k5)
   .
     have hcount:∀(l:List Nat),l.Nodup->i∈l->(l.filter λk=>!listed.getD k η).length=(l.filter λk=>!(listed.setIfInBounds i ζ).getD k η).length+1:=by
      intro l
      induction l with
      |nil=>grind
      |cons k l ihl=>
       intro hnd hm
       obtain⟨hk1,hk2⟩:=YT.1 hnd
       by_cases hki:i=k
       .subst hki
        have hsame:(l.filter λk=>!listed.getD k η)=(l.filter λk=>!(listed.setIfInBounds i ζ).getD k η):=by
         apply List.filter_congr
         intro z hz
         rw[cF oaa,if_neg (λe=>hk1 (by grind))]
        rw[List.filter_cons_of_pos (by grind),List.filter_cons_of_neg (by rw[cF oaa,if_pos rfl];simp),hsame,Yg]
       have hml:i∈l:=by rcases Yh.1 hm with e|e;exact absurd e hki;exact e
       have:=ihl hk2 hml
       have hgk:(listed.setIfInBounds i ζ).getD k η=listed.getD k false:=by rw[cF oaa,if_neg hki]
       cases hgd:listed.getD k η with
       |true=>grind
       |false=>grind
     have:=hcount (v0 ops.size) List.nodup_range (by grind)
     omega
   intro j oj hj hdj e he hb
   rw[cF oaa]
   split
   .rfl
   rw[cF oaa] at hdj
   split at hdj
   .grind
   grind
  have hrun:∀needs,(∀y t,(y,t)∈needs->cvT E w t (a.eval y))->AWN P o needs x.nob x.out x.nw->o.wp P a w (wpAny P .any ops Q fuel (listed.setIfInBounds i ζ)) Q:=by
   intro needs hne hawn
   refine qC (λ_ _ _ h=>h.elim) (Oper.wp_mono ?_ (hawn cx E a w hI.ok hne hnob (λl ob hm=>⟨hfresh l ob hm,B0 hlab i x l ob hx hm⟩)))
   rintro a' w' ⟨v,E',rfl,k1,k2,k3,k4,k5⟩
   rw[t3]
   exact hnext v E' w' k1 k2 k3 k4 k5
  have hguard:∀j dj (b:Bool),(ops[j]?).bind (·.dst)=ς dj->dj<N->cvT E w (tB b) (a.eval (.tmp dj))->yielded ops a.tmps j=ς b:=by
   intro j dj b hj hdj hcv
   have hb:a.tmps.getD dj undef= .bool b:=by simpa [cvT,cvV,cvC,rdD,Act.eval] using hcv
   have hs:dj<a.tmps.size:=by rw[hI.size];exact hdj
   have h2:a.tmps[dj]?=ς (.bool b):=by
    rw[YC hs];simpa [YV,hs] using hb
   unfold yielded
   cases ho':ops[j]? with
   |none=>grind
   |some o'=>grind
  unfold wpOp
  simp only[ho]
  rcases t5 with⟨hg,hawn⟩|⟨j,dj,b,ys,hg,hj,hdj,hnd,hawn⟩|⟨j,dj,b,t,hg,hj,hdj,hnd,hno,hout,hnw⟩
  .rw[if_pos (by simp[Region.wanted,hg])]
   grind
  .have hy:=hguard j dj b hj hdj (hneeds (.tmp dj) (tB b) (by grind))
   rw[if_pos (by simp[Region.wanted,hg,hy])]
   grind
  have hy:=C6 (N:=N) (ops:=ops) (hneeds (.tmp dj) t (by grind)) (by rw[hI.size];exact hdj) hj hno
  rw[if_neg (by simp[Region.wanted,hg,hy]),t3]
  exact hnext undef E w hI.ok (Ext.refl E w) (by rw[hout];exact⟨#[],rfl,θ⟩) (by grind) (λ_ _ h=>.inl h)
end
theorem iv(n i:Nat):(Ym n η).getD i η=false:=by
 by_cases h:i<n<;>simp[h]
theorem yL{cx:Cx}(hR:Rel N cx E st a w):Rel N cx E st a {w with drawn:=w.drawn+1}:=by
 have hk:jV E w E {w with drawn:=w.drawn+1}:=⟨λ_ _ h=>h,λ_ _ h=>h,λ_ _ _=>rfl,λ_ _ h=>⟨h,rfl⟩,λ_ h=>⟨h,.of_eq rfl⟩,rfl⟩
 exact⟨⟨hR.ok.fb,hR.ok.gf,hR.ok.gn,hR.ok.rb,hR.ok.inj,hR.ok.os,hR.ok.tape,hR.ok.output,hR.ok.size,hR.ok.block,hR.ok.pin,hR.ok.ff,λb h h'=>(hR.ok.gc b h h').of_eq rfl,hR.ok.sf.grow rfl rfl (λ_ h=>.inl h) (λo b c h=>.inl ⟨o,c,h⟩) (Yj _) (λ_ _=>rfl)⟩,hR.dom,λl ob h=>f8 hk (λ_ _ _=>rfl) (λ_ _ _ h=>h) (hR.obs l ob h),λk=>jM hk (hR.sl k),hR.dfr,hR.size,hR.td⟩
def Q9(n:Nat):Laa->Bool
 |[]=>ζ
 |(l,_)::r=>nlt l n&&Q9 n r
theorem LZ{n:Nat}:∀{ob:Laa} {l:Nat} {x:Ob},Q9 n ob=ζ->go ob l=ς x->l<n
 |(k,v)::r,l,x,h,hg=>by
  simp only[Q9,hV] at h
  by_cases hk:k=l
  .subst hk;exact cO h.1
  rw[bG _ _ hk] at hg;exact LZ h.2 hg
theorem Pf{l:List Oper}{AQ:Exit->St->Prop}(hm:P.follows .mixedOrders=true:=by exact Try.follows)(hol:Q9 st.nx st.ob=true:=by exact rfl)(h:DR P N l.toArray l [] st (λis s=>xB l.toArray is st.nx=ζ/\AQ .normal s)):AWC P N (.region id l.toArray ζ) st AQ:=by
 intro cx E a w hR
 obtain⟨is,st',n1,n2,n3,n4,n5,n6,n7⟩:=K7 (base:=st) h (λ_=>rfl) rfl rfl
 simp only[List.nil_append] at n2 n3 n4 n5 n6
 simp only[xB,hV] at n6
 obtain⟨⟨c1,c2⟩,c3⟩:=n6
 have hlen:is.length=l.toArray.size:=by simpa using n1
 have hall:∀(i:Nat) (x:Inf) (o:Oper),is[i]?=ς x->l.toArray[i]?=ς o->(∀e∈o.after,Region.binds .any e=ζ->e.on<i)/\
  (∀k∈iS x.needs,∀j,rY is k=ς j->if nlt j i then anc l.toArray is.length i j=ζ else(i=j\/anc l.toArray is.length j i=ζ))/\
  (∀p∈x.nob,p.1<st.nx\/∃j,QD is p.1=ς j/\anc l.toArray is.length i j=ζ):=by
  intro i x o hx ho
  have hil:i<is.length:=(Yc.1 hx).1
  have:=Yi.1 c3 i (by simp_all)
  simp only[hx,ho,hV,Yi] at this
  obtain⟨⟨k1,k2⟩,k3⟩:=this
  refine⟨λe he hb=>?_,λk hk j hj=>?_,λp hp=>?_⟩
  .have:=k1 e (by simp_all);simp only[hb,Bool.not_true,Bool.false_or] at this;exact cO this
  .have:=k2 k hk
   simp_all
  have:=k3 p hp
  simp only[Yw] at this
  rcases this with h|h
  .exact .inl (cO h)
  grind
 have hop:∀i x,is[i]?=ς x->∃o,l.toArray[i]?=ς o:=λi x hx=>⟨_,YC (by grind)⟩
 have hix:∀(i:Nat) (o:Oper),l.toArray[i]?=ς o->∃x,is[i]?=ς x:=λi o ho=>⟨_,Yb (by
  grind)⟩
 refine wp_region_any hm ?_
 have hR':=yL hR
 refine KJ (P:=P) (N:=N) (cx:=cx) (base:=st) (is:=is) hlen n3 c2 ?_ ?_ ?_ ?_ ?_ ?_ _ _ _ _ E (by simp) ?_ ?_ ?_
 .intro i ob h;exact LZ hol h
 .grind
 .grind
 .grind
 .grind
 .intro listed a' w' E' hdone hI
  refine⟨E',st',⟨hI.ok,λl' x' hl=>?_,λl' ob hl=>?_,λk=>?_,hI.dfr,hI.size,λl' b' h'=>Yr (hI.td l' b' h') (ku n3).1⟩,n7⟩
  .have hr:=ku n3
   rcases hI.dom l' x' hl with h|⟨j,y,ob,_,h2,h3⟩
   .omega
   grind
  .rw[n5] at hl
   rcases Lh _ _ _ hl with⟨j,x',hj,hx'⟩|h
   .exact hI.new j x' l' ob (hdone j (by grind)) hj hx'
   exact hI.obs l' ob h
  rw[n4 k]
  cases hw:rY is k with
  |none=>
   have hno:∀z∈is,z.d≠k:=by
    intro z hz e
    have:=YU.1 hw z hz
    rw[e] at this;simp at this
   rw[wG _ _ hno]
   exact hI.old k λj y _ hy=>hno y (Yd hy)
  |some j=>
   obtain⟨hjl,hjp,_⟩:=YR.1 hw
   have hjd:is[j].d=k:=Yf hjp
   have:=hI.out j is[j] (hdone j oaa) (Yb hjl)
   have h9:=ue (base:=st) is j is[j] (Yb hjl) (λj' y hy he=>pT c2 j' j y is[j] hy (Yb hjl) he)
   grind
 .rw[List.filter_eq_self.2]
  .simp
  intro i hi;rw[iv];rfl
 .intro i o ho hd;rw[iv] at hd;cases hd
 refine⟨hR'.ok,λl' x' hl=>.inl (hR'.dom l' x' hl),hR'.obs,(λj y l' ob hd=>by rw[iv] at hd;cases hd),(λj y hd=>by rw[iv] at hd;cases hd),λk _=>hR'.sl k,hR'.dfr,hR'.size,hR'.td⟩
def nxt(nx:Nat):Option Nat:=bif rsv nx then ξ else ς (nx+1)
theorem mM{ob:Ob}(h:nxt nx=ς nx'):Nw nx [(nx,ob)] nx':=by
 unfold nxt at h
 cases hr:rsv nx with
 |true=>simp_all
 |false=>rw[hr] at h;exact⟨⟨rfl,hr⟩,(Option.some.inj h).symm⟩
theorem GJ{n:Int}(h: -9223372036854775808<=n/\n<=9223372036854775807):IntKind.i64.wrap n=n:=by rw[IntKind.wrap_i64];omega
section
variable{P:Program}{N:Nat}{d:Tmp}{ty:TypeId}{ps:String}{af:Array Edge}{gd:Option (Nat×Bool)}{x y z:Operand}{sl:Lab}{ob:Laa}{nx:Nat}
abbrev NS0(P:Program)(N:Nat)(o:Oper)(sl:Lab)(ob:Laa)(nx:Nat)(d:Tmp)(out:T)(x:Inf):Prop:=NS P N o ⟨sl,ob,nx⟩ ⟨(d,out)::sl,ob,nx⟩ x
theorem mv1{c:C}(h:opT sl x= .v (.c c))(hN:nlt d N=ζ):NS0 P N ⟨ς d,.move x,ty,ps,af,gd⟩ sl ob nx d (.v (.c c)) ⟨d,[(x,.v (.c c))],[],.v (.c c),[]⟩:=dh (st:=⟨sl,ob,nx⟩) JN rfl hN ⟨h,θ⟩ trivial rfl
theorem mv2{c:List C}(h:opT sl x= .v (.agg c))(hN:nlt d N=ζ):NS0 P N ⟨ς d,.move x,ty,ps,af,gd⟩ sl ob nx d (.v (.agg c)) ⟨d,[(x,.v (.agg c))],[],.v (.agg c),[]⟩:=dh (st:=⟨sl,ob,nx⟩) JN rfl hN ⟨h,θ⟩ trivial rfl
theorem mv3{c:List V}(h:opT sl x= .tup c)(hN:nlt d N=ζ):NS0 P N ⟨ς d,.move x,ty,ps,af,gd⟩ sl ob nx d (.tup c) ⟨d,[(x,.tup c)],[],.tup c,[]⟩:=dh (st:=⟨sl,ob,nx⟩) JN rfl hN ⟨h,θ⟩ trivial rfl
theorem as1{c:C}(h:opT sl x= .v (.c c))(hN:nlt d N=ζ):NS0 P N ⟨ς d,.assign x,ty,ps,af,gd⟩ sl ob nx d (.v (.c c)) ⟨d,[(x,.v (.c c))],[],.v (.c c),[]⟩:=dh (st:=⟨sl,ob,nx⟩) B8 rfl hN ⟨h,θ⟩ trivial rfl
theorem as2{c:List C}(h:opT sl x= .v (.agg c))(hN:nlt d N=ζ):NS0 P N ⟨ς d,.assign x,ty,ps,af,gd⟩ sl ob nx d (.v (.agg c)) ⟨d,[(x,.v (.agg c))],[],.v (.agg c),[]⟩:=dh (st:=⟨sl,ob,nx⟩) B8 rfl hN ⟨h,θ⟩ trivial rfl
theorem as3{c:List V}(h:opT sl x= .tup c)(hN:nlt d N=ζ):NS0 P N ⟨ς d,.assign x,ty,ps,af,gd⟩ sl ob nx d (.tup c) ⟨d,[(x,.tup c)],[],.tup c,[]⟩:=dh (st:=⟨sl,ob,nx⟩) B8 rfl hN ⟨h,θ⟩ trivial rfl
theorem pk1{c:C}(h:opT sl x= .v (.c (.d g (.b ζ))))(hy:opT sl y= .v (.c c))(hN:nlt d N=ζ):NS0 P N ⟨ς d,.pick x y z,ty,ps,af,gd⟩ sl ob nx d (.v (.c c)) ⟨d,[(x,.v (.c (.d g (.b ζ)))),(y,.v (.c c))],[],.v (.c c),[]⟩:=dh (st:=⟨sl,ob,nx⟩) HY rfl hN ⟨h,hy,θ⟩ trivial rfl
theorem pk0{c:C}(h:opT sl x= .v (.c (.d g (.b η))))(hz:opT sl z= .v (.c c))(hN:nlt d N=ζ):NS0 P N ⟨ς d,.pick x y z,ty,ps,af,gd⟩ sl ob nx d (.v (.c c)) ⟨d,[(x,.v (.c (.d g (.b η)))),(z,.v (.c c))],[],.v (.c c),[]⟩:=dh (st:=⟨sl,ob,nx⟩) FN rfl hN ⟨h,hz,θ⟩ trivial rfl
theorem io{op:BinOp}{k:IntKind}{a b:Int}{r:D}(hx:opT sl x= .v (.c (.d g (.i k a))))(hy:opT sl y= .v (.c (.d g' (.i k b))))(hN:nlt d N=ζ)(h:Qq op k a b=ς r):
 NS0 P N ⟨ς d,.binOp op t x y t',ty,ps,af,gd⟩ sl ob nx d (.v (.c (.d η r))) ⟨d,[(x,.v (.c (.d g (.i k a)))),(y,.v (.c (.d g' (.i k b))))],[],.v (.c (.d η r)),[]⟩:=dh (st:=⟨sl,ob,nx⟩) (n_int h) rfl hN ⟨hx,hy,θ⟩ trivial rfl
theorem iqT{k:IntKind}{a b:Int}(hx:opT sl x= .v (.c (.d g (.i k a))))(hy:opT sl y= .v (.c (.d g' (.i k b))))(hN:nlt d N=ζ)(he:decide (a=b)=ζ):
 NS0 P N ⟨ς d,.binOp .eql t x y t',ty,ps,af,gd⟩ sl ob nx d (.v (.c (.d η (.b ζ)))) ⟨d,[(x,.v (.c (.d g (.i k a)))),(y,.v (.c (.d g' (.i k b))))],[],.v (.c (.d η (.b ζ))),[]⟩:=io hx hy hN (by show ς (D.b (eqB a b))=_;simp_all)
theorem iqF{k:IntKind}{a b:Int}(hx:opT sl x= .v (.c (.d g (.i k a))))(hy:opT sl y= .v (.c (.d g' (.i k b))))(hN:nlt d N=ζ)(he:decide (a=b)=η):
 NS0 P N ⟨ς d,.binOp .eql t x y t',ty,ps,af,gd⟩ sl ob nx d (.v (.c (.d η (.b η)))) ⟨d,[(x,.v (.c (.d g (.i k a)))),(y,.v (.c (.d g' (.i k b))))],[],.v (.c (.d η (.b η))),[]⟩:=io hx hy hN (by show ς (D.b (eqB a b))=_;simp_all)
theorem is{a b:Int}(hx:opT sl x= .v (.c (.d g (.i .i64 a))))(hy:opT sl y= .v (.c (.d g' (.i .i64 b))))(hN:nlt d N=ζ)(h: -9223372036854775808<=a-b/\a-b<=9223372036854775807):
 NS0 P N ⟨ς d,.binOp .sub t x y t',ty,ps,af,gd⟩ sl ob nx d (tI (a-b)) ⟨d,[(x,.v (.c (.d g (.i .i64 a)))),(y,.v (.c (.d g' (.i .i64 b))))],[],tI (a-b),[]⟩:=by
 have:=io (P:=P) (N:=N) (d:=d) (ty:=ty) (ps:=ps) (af:=af) (gd:=gd) (ob:=ob) (nx:=nx) (t:=t) (t':=t') (op:=.sub) hx hy hN rfl
 rwa [GJ h] at this
theorem ir{k:IntKind}{a b:Int}(hx:opT sl x= .v (.c (.d g (.i k a))))(hy:opT sl y= .v (.c (.d g' (.i k b))))(hN:nlt d N=ζ)(h:b≠0):
 NS0 P N ⟨ς d,.binOp .rem t x y t',ty,ps,af,gd⟩ sl ob nx d (.v (.c (.d η (.i k (a.tmod b))))) ⟨d,[(x,.v (.c (.d g (.i k a)))),(y,.v (.c (.d g' (.i k b))))],[],.v (.c (.d η (.i k (a.tmod b)))),[]⟩:=dh (st:=⟨sl,ob,nx⟩) (n_rem h) rfl hN ⟨hx,hy,θ⟩ trivial rfl
theorem iq{k:IntKind}{a b:Int}(hx:opT sl x= .v (.c (.d g (.i k a))))(hy:opT sl y= .v (.c (.d g' (.i k b))))(hN:nlt d N=ζ)(h:b≠0):
 NS0 P N ⟨ς d,.binOp .quo t x y t',ty,ps,af,gd⟩ sl ob nx d (.v (.c (.d η (.i k (k.wrap (a.tdiv b)))))) ⟨d,[(x,.v (.c (.d g (.i k a)))),(y,.v (.c (.d g' (.i k b))))],[],.v (.c (.d η (.i k (k.wrap (a.tdiv b))))),[]⟩:=dh (st:=⟨sl,ob,nx⟩) (n_quo h) rfl hN ⟨hx,hy,θ⟩ trivial rfl
theorem se{a b:ByteArray}(hx:opT sl x= .v (.c (.d g (.str a))))(hy:opT sl y= .v (.c (.d g' (.str b))))(hN:nlt d N=ζ):
 NS0 P N ⟨ς d,.binOp .eql t x y t',ty,ps,af,gd⟩ sl ob nx d (tB (strB a b)) ⟨d,[(x,.v (.c (.d g (.str a)))),(y,.v (.c (.d g' (.str b))))],[],tB (strB a b),[]⟩:=dh (st:=⟨sl,ob,nx⟩) QR rfl hN ⟨hx,hy,θ⟩ trivial rfl
theorem sn{a b:ByteArray}(hx:opT sl x= .v (.c (.d g (.str a))))(hy:opT sl y= .v (.c (.d g' (.str b))))(hN:nlt d N=ζ):
 NS0 P N ⟨ς d,.binOp .neq t x y t',ty,ps,af,gd⟩ sl ob nx d (tB (!strB a b)) ⟨d,[(x,.v (.c (.d g (.str a)))),(y,.v (.c (.d g' (.str b))))],[],tB (!strB a b),[]⟩:=dh (st:=⟨sl,ob,nx⟩) QS rfl hN ⟨hx,hy,θ⟩ trivial rfl
theorem sa{a b:ByteArray}(hx:opT sl x= .v (.c (.d g (.str a))))(hy:opT sl y= .v (.c (.d g' (.str b))))(hN:nlt d N=ζ)(h:a.size+b.size<=9223372036854775807):
 NS0 P N ⟨ς d,.binOp .add t x y t',ty,ps,af,gd⟩ sl ob nx d (tS (a++b)) ⟨d,[(x,.v (.c (.d g (.str a)))),(y,.v (.c (.d g' (.str b))))],[],tS (a++b),[]⟩:=dh (st:=⟨sl,ob,nx⟩) (NN h) rfl hN ⟨hx,hy,θ⟩ trivial rfl
theorem un(hx:opT sl x= .v (.c (.d g (.b b))))(hN:nlt d N=ζ):NS0 P N ⟨ς d,.unOp .not t x,ty,ps,af,gd⟩ sl ob nx d (tB (!b)) ⟨d,[(x,.v (.c (.d g (.b b))))],[],tB (!b),[]⟩:=dh (st:=⟨sl,ob,nx⟩) n_not rfl hN ⟨hx,θ⟩ trivial rfl
theorem ng{k:IntKind}{n:Int}(hx:opT sl x= .v (.c (.d g (.i k n))))(hN:nlt d N=ζ):NS0 P N ⟨ς d,.unOp .neg t x,ty,ps,af,gd⟩ sl ob nx d (.v (.c (.d η (.i k (k.wrap (0-n)))))) ⟨d,[(x,.v (.c (.d g (.i k n))))],[],.v (.c (.d η (.i k (k.wrap (0-n))))),[]⟩:=dh (st:=⟨sl,ob,nx⟩) n_neg rfl hN ⟨hx,θ⟩ trivial rfl
theorem cv{ds:TypeDesc}{k k':IntKind}{n:Int}[TyU P t ds][TyU P t' (.int k')](hx:opT sl x= .v (.c (.d g (.i k n))))(hN:nlt d N=ζ):
 NS0 P N ⟨ς d,.convert t t' x,ty,ps,af,gd⟩ sl ob nx d (.v (.c (.d η (.i k' (k'.wrap n))))) ⟨d,[(x,.v (.c (.d g (.i k n))))],[],.v (.c (.d η (.i k' (k'.wrap n)))),[]⟩:=dh (st:=⟨sl,ob,nx⟩) WM rfl hN ⟨hx,θ⟩ trivial rfl
theorem ex{ts:List V}{i:Nat}{v:V}(hx:opT sl x= .tup ts)(hN:nlt d N=ζ)(h:ts[i]?=ς v):NS0 P N ⟨ς d,.extract x i,ty,ps,af,gd⟩ sl ob nx d (.v v) ⟨d,[(x,.tup ts)],[],.v v,[]⟩:=dh (st:=⟨sl,ob,nx⟩) (NB h) rfl hN ⟨hx,θ⟩ trivial rfl
theorem nc{o:Nat}(hx:opT sl x= .v (.c (.p o k)))(hN:nlt d N=ζ):NS0 P N ⟨ς d,.nilCheck x,ty,ps,af,gd⟩ sl ob nx d (.v (.c (.p o k))) ⟨d,[(x,.v (.c (.p o k)))],[],.v (.c (.p o k)),[]⟩:=dh (st:=⟨sl,ob,nx⟩) FM rfl hN ⟨hx,θ⟩ trivial rfl
theorem lw{o by_:Nat}[dB P t e sz by_](hx:opT sl x= .v (.c (.w o n)))(hN:nlt d N=ζ):NS0 P N ⟨ς d,.call ⟨.builtin .len,#[x],#[t]⟩,ty,ps,af,gd⟩ sl ob nx d (tI n) ⟨d,[(x,.v (.c (.w o n)))],[],tI n,[]⟩:=dh (st:=⟨sl,ob,nx⟩) Ut rfl hN ⟨hx,θ⟩ trivial rfl
theorem ls{o zz by_:Nat}[dB P t e sz by_](hx:opT sl x= .v (.c (.s o zz off n)))(hN:nlt d N=ζ):NS0 P N ⟨ς d,.call ⟨.builtin .len,#[x],#[t]⟩,ty,ps,af,gd⟩ sl ob nx d (tI n) ⟨d,[(x,.v (.c (.s o zz off n)))],[],tI n,[]⟩:=dh (st:=⟨sl,ob,nx⟩) Us rfl hN ⟨hx,θ⟩ trivial rfl
theorem ld{xs:Lad}{by_:Nat}[dB P t e sz by_](hx:opT sl x= .v (.c (.d g (.l xs))))(hN:nlt d N=ζ):NS0 P N ⟨ς d,.call ⟨.builtin .len,#[x],#[t]⟩,ty,ps,af,gd⟩ sl ob nx d (tI xs.length) ⟨d,[(x,.v (.c (.d g (.l xs))))],[],tI xs.length,[]⟩:=dh (st:=⟨sl,ob,nx⟩) Ur rfl hN ⟨hx,θ⟩ trivial rfl
theorem ln{by_:Nat}[dB P t e sz by_](hx:opT sl x= .v (.c .nil))(hN:nlt d N=ζ):NS0 P N ⟨ς d,.call ⟨.builtin .len,#[x],#[t]⟩,ty,ps,af,gd⟩ sl ob nx d (tI 0) ⟨d,[(x,.v (.c .nil))],[],tI 0,[]⟩:=dh (st:=⟨sl,ob,nx⟩) NI rfl hN ⟨hx,θ⟩ trivial rfl
theorem WD{s:ByteArray}[TyU P t .string](hx:opT sl x= .v (.c (.d g (.str s))))(hN:nlt d N=ζ):NS0 P N ⟨ς d,.call ⟨.builtin .len,#[x],#[t]⟩,ty,ps,af,gd⟩ sl ob nx d (tI s.size) ⟨d,[(x,.v (.c (.d g (.str s))))],[],tI s.size,[]⟩:=dh (st:=⟨sl,ob,nx⟩) NJ rfl hN ⟨hx,θ⟩ trivial rfl
theorem fp{o k':Nat}[TyF P t f off ft](hx:opT sl x= .v (.c (.p o k)))(hN:nlt d N=ζ)(hk:k+off=k'):NS0 P N ⟨ς d,.fieldAddr t x f,ty,ps,af,gd⟩ sl ob nx d (.v (.c (.p o k'))) ⟨d,[(x,.v (.c (.p o k)))],[],.v (.c (.p o k')),[]⟩:=by
 subst hk;exact dh (st:=⟨sl,ob,nx⟩) ND rfl hN ⟨hx,θ⟩ trivial rfl
theorem fe{o i j':Nat}[TyF P t f off ft](hx:opT sl x= .v (.c (.e o sz i j)))(hN:nlt d N=ζ)(hk:j+off=j'):NS0 P N ⟨ς d,.fieldAddr t x f,ty,ps,af,gd⟩ sl ob nx d (.v (.c (.e o sz i j'))) ⟨d,[(x,.v (.c (.e o sz i j)))],[],.v (.c (.e o sz i j')),[]⟩:=by
 subst hk;exact dh (st:=⟨sl,ob,nx⟩) NC rfl hN ⟨hx,θ⟩ trivial rfl
theorem fq{e:List D}{j':Nat}[TyF P t f off ft](hx:opT sl x= .v (.c (.q g e j)))(hN:nlt d N=ζ)(hk:j+off=j'):NS0 P N ⟨ς d,.fieldAddr t x f,ty,ps,af,gd⟩ sl ob nx d (.v (.c (.q g e j'))) ⟨d,[(x,.v (.c (.q g e j)))],[],.v (.c (.q g e j')),[]⟩:=by
 subst hk;exact dh (st:=⟨sl,ob,nx⟩) NE rfl hN ⟨hx,θ⟩ trivial rfl
theorem xw{by_:Nat}{o:Nat}[dB P t e sz by_](hx:opT sl x= .v (.c (.w o n)))(hy:opT sl y= .v (.c (.d g (.i kd i))))(hN:nlt d N=ζ)(h0:0<=i)(h1:i<n):
 NS0 P N ⟨ς d,.indexAddr t x y,ty,ps,af,gd⟩ sl ob nx d (.v (.c (.e o sz i.toNat 0))) ⟨d,[(x,.v (.c (.w o n))),(y,.v (.c (.d g (.i kd i))))],[],.v (.c (.e o sz i.toNat 0)),[]⟩:=dh (st:=⟨sl,ob,nx⟩) (D1 h0 h1) rfl hN ⟨hx,hy,θ⟩ trivial rfl
theorem xs{by_:Nat}{o:Nat}[dB P t e sz by_](hx:opT sl x= .v (.c (.s o sz off n)))(hy:opT sl y= .v (.c (.d g (.i kd i))))(hN:nlt d N=ζ)(h0:0<=i)(h1:i<n):
 NS0 P N ⟨ς d,.indexAddr t x y,ty,ps,af,gd⟩ sl ob nx d (.v (.c (.e o sz (off+i.toNat) 0))) ⟨d,[(x,.v (.c (.s o sz off n))),(y,.v (.c (.d g (.i kd i))))],[],.v (.c (.e o sz (off+i.toNat) 0)),[]⟩:=dh (st:=⟨sl,ob,nx⟩) (NH h0 h1) rfl hN ⟨hx,hy,θ⟩ trivial rfl
theorem xd{by_:Nat}{xs:Lad}[dB P t e sz by_](hx:opT sl x= .v (.c (.d g (.l xs))))(hy:opT sl y= .v (.c (.d g' (.i kd i))))(hN:nlt d N=ζ)(h0:0<=i)(he:xs[i.toNat]?=ς el)(hs:∀e∈xs,e.length=sz):NS0 P N ⟨ς d,.indexAddr t x y,ty,ps,af,gd⟩ sl ob nx d (.v (.c (.q g el 0))) ⟨d,[(x,.v (.c (.d g (.l xs)))),(y,.v (.c (.d g' (.i kd i))))],[],.v (.c (.q g el 0)),[]⟩:=dh (st:=⟨sl,ob,nx⟩) (NG h0 he hs) rfl hN ⟨hx,hy,θ⟩ trivial rfl
theorem op{o:Nat}{c:C}[ic P t](hx:opT sl x= .v (.c (.p o k)))(ho:go ob o=ς (.var vt cs))(hN:nlt d N=ζ)(hc:cs[k]?=ς c):
 NS0 P N ⟨ς d,.load t x,ty,ps,af,gd⟩ sl ob nx d (.v (.c c)) ⟨d,[(x,.v (.c (.p o k)))],[(o,.var vt cs)],.v (.c c),[]⟩:=dh (st:=⟨sl,ob,nx⟩) (QO hc) rfl hN ⟨hx,θ⟩ ⟨ho,θ⟩ rfl
theorem opa{o:Nat}{r:List C}[fU P t n](hx:opT sl x= .v (.c (.p o k)))(ho:go ob o=ς (.var vt cs))(hN:nlt d N=ζ)(hc:yG k n cs=ς r):
 NS0 P N ⟨ς d,.load t x,ty,ps,af,gd⟩ sl ob nx d (.v (.agg r)) ⟨d,[(x,.v (.c (.p o k)))],[(o,.var vt cs)],.v (.agg r),[]⟩:=dh (st:=⟨sl,ob,nx⟩) (Dk hc) rfl hN ⟨hx,θ⟩ ⟨ho,θ⟩ rfl
theorem oq{e:List D}{c:C}[ic P t](hx:opT sl x= .v (.c (.q g e j)))(hN:nlt d N=ζ)(hc:ld1 g j e=ς c):
 NS0 P N ⟨ς d,.load t x,ty,ps,af,gd⟩ sl ob nx d (.v (.c c)) ⟨d,[(x,.v (.c (.q g e j)))],[],.v (.c c),[]⟩:=dh (st:=⟨sl,ob,nx⟩) (NM hc) rfl hN ⟨hx,θ⟩ trivial rfl
theorem oqa{e:List D}[fU P t n](hx:opT sl x= .v (.c (.q g e j)))(hN:nlt d N=ζ)(hc:B2 g j n e=ς cs):
 NS0 P N ⟨ς d,.load t x,ty,ps,af,gd⟩ sl ob nx d (.v (.agg cs)) ⟨d,[(x,.v (.c (.q g e j)))],[],.v (.agg cs),[]⟩:=dh (st:=⟨sl,ob,nx⟩) (Dl hc) rfl hN ⟨hx,θ⟩ trivial rfl
theorem oe{o i:Nat}{rt:TypeId}{c:C}[ic P t](hx:opT sl x= .v (.c (.e o sz i j)):=by exact rfl)(ho:go ob o=ς (.row rt sz els g m):=by exact rfl)(hN:nlt d N=true:=by exact rfl)(he:els[i]?=ς el)(hc:ld1 g j el=ς c:=by exact rfl):
 NS0 P N ⟨ς d,.load t x,ty,ps,af,gd⟩ sl ob nx d (.v (.c c)) ⟨d,[(x,.v (.c (.e o sz i j)))],[(o,.row rt sz els g m)],.v (.c c),[]⟩:=dh (st:=⟨sl,ob,nx⟩) (D2 he hc) rfl hN ⟨hx,θ⟩ ⟨ho,θ⟩ rfl
theorem oea{o i:Nat}{rt:TypeId}[fU P t n](hx:opT sl x= .v (.c (.e o sz i j)):=by exact rfl)(ho:go ob o=ς (.row rt sz els g m):=by exact rfl)(hN:nlt d N=true:=by exact rfl)(he:els[i]?=ς el)(hc:B2 g j n el=ς cs:=by exact rfl):
 NS0 P N ⟨ς d,.load t x,ty,ps,af,gd⟩ sl ob nx d (.v (.agg cs)) ⟨d,[(x,.v (.c (.e o sz i j)))],[(o,.row rt sz els g m)],.v (.agg cs),[]⟩:=dh (st:=⟨sl,ob,nx⟩) (xe he hc) rfl hN ⟨hx,θ⟩ ⟨ho,θ⟩ rfl
theorem fv{c:C}[TyF P t f off ft][ic P ft](hx:opT sl x= .v (.agg cs))(hN:nlt d N=ζ)(hc:cs[off]?=ς c):NS0 P N ⟨ς d,.field t x f,ty,ps,af,gd⟩ sl ob nx d (.v (.c c)) ⟨d,[(x,.v (.agg cs))],[],.v (.c c),[]⟩:=dh (st:=⟨sl,ob,nx⟩) (QL hc) rfl hN ⟨hx,θ⟩ trivial rfl
theorem fva{r:List C}[TyF P t f off ft][fU P ft n](hx:opT sl x= .v (.agg cs))(hN:nlt d N=ζ)(hc:yG off n cs=ς r):NS0 P N ⟨ς d,.field t x f,ty,ps,af,gd⟩ sl ob nx d (.v (.agg r)) ⟨d,[(x,.v (.agg cs))],[],.v (.agg r),[]⟩:=dh (st:=⟨sl,ob,nx⟩) (Di hc) rfl hN ⟨hx,θ⟩ trivial rfl
abbrev NS1(P:Program)(N:Nat)(o:Oper)(sl:Lab)(ob:Laa)(nx nx':Nat)(d:Tmp)(out:T)(nb:Ob)(x:Inf):Prop:=NS P N o ⟨sl,ob,nx⟩ ⟨(d,out)::sl,(nx,nb)::ob,nx'⟩ x
theorem al{zs:List C}[TyZ P t zs](hN:nlt d N=ζ)(hq:nxt nx=ς nx'):NS1 P N ⟨ς d,.alloc t,ty,ps,af,gd⟩ sl ob nx nx' d (.v (.c (.p nx 0))) (.var t zs) ⟨d,[],[],.v (.c (.p nx 0)),[(nx,.var t zs)]⟩:=dh (st:=⟨sl,ob,nx⟩) Uo rfl hN trivial trivial (mM hq)
theorem ba(hx:opT sl x= .v (.agg cs))(hN:nlt d N=ζ)(hq:nxt nx=ς nx'):NS1 P N ⟨ς d,.box t x,ty,ps,af,gd⟩ sl ob nx nx' d (.v (.c (.p nx 0))) (.var t cs) ⟨d,[(x,.v (.agg cs))],[],.v (.c (.p nx 0)),[(nx,.var t cs)]⟩:=dh (st:=⟨sl,ob,nx⟩) Nz rfl hN ⟨hx,θ⟩ trivial (mM hq)
theorem bc{c:C}(hx:opT sl x= .v (.c c))(hN:nlt d N=ζ)(hs:c.sto=ζ)(hq:nxt nx=ς nx'):NS1 P N ⟨ς d,.box t x,ty,ps,af,gd⟩ sl ob nx nx' d (.v (.c (.p nx 0))) (.var t [c]) ⟨d,[(x,.v (.c c))],[],.v (.c (.p nx 0)),[(nx,.var t [c])]⟩:=dh (st:=⟨sl,ob,nx⟩) (Up hs) rfl hN ⟨hx,θ⟩ trivial (mM hq)
def JW(sl:Lab):List Operand->Option (List V)
 |[]=>ς []
 |x::xs=>match opT sl x,JW sl xs with
  | .v v,ς vs=>ς (v::vs)
  |_,_=>ξ
theorem AO{sl:Lab}:∀{xs:List Operand} {vs:List V},JW sl xs=ς vs->vs.length=xs.length/\Lk sl (xs.zip (vs.map T.v))
 |[],vs,h=>by simp[JW] at h;subst h;exact⟨rfl,θ⟩
 |x::xs,vs,h=>by
  simp only[JW] at h
  split at h
  .rename_i v vs' h1 h2
   simp at h;subst h
   obtain⟨k1,k2⟩:=AO h2
   exact⟨by simp[k1],h1,k2⟩
  cases h
theorem bd{zs:List C}{pl:Lac}{parts:List (Nat×Operand)}[TyZ P t zs][TyB P t pl](hv:JW sl (parts.map (·.2))=ς vs)(h:Bp pl zs ((parts.map (·.1)).zip vs)=ς cs)(hN:nlt d N=ζ):
 NS0 P N ⟨ς d,.build t parts.toArray,ty,ps,af,gd⟩ sl ob nx d (.v (.agg cs)) ⟨d,(parts.map (·.2)).zip (vs.map T.v),[],.v (.agg cs),[]⟩:=by
 obtain⟨h1,h2⟩:=AO hv
 exact dh (st:=⟨sl,ob,nx⟩) (LT (by simp_all) h) rfl hN h2 trivial rfl
theorem bs{by_:Nat}{len:Nat}{parts:List (Nat×Operand)}[dB P t e sz by_](hv:JW sl (parts.map (·.2))=ς vs)(he:vsD vs=ς (els,g))(hs:QC sz els=ζ)(hlen:len=parts.length)(hi:parts.map (·.1)=v0 len)(h24:Yk (len*sz) 16777216=ζ)(hN:nlt d N=ζ)(hq:nxt nx=ς nx'):
 NS1 P N ⟨ς d,.buildSlice t len parts.toArray,ty,ps,af,gd⟩ sl ob nx nx' d (.v (.c (.w nx len))) (.row e sz els g ζ) ⟨d,(parts.map (·.2)).zip (vs.map T.v),[],.v (.c (.w nx len)),[(nx,.row e sz els g ζ)]⟩:=by
 obtain⟨h1,h2⟩:=AO hv
 exact dh (st:=⟨sl,ob,nx⟩) (FF hlen (by simp_all) hi he hs (YJ h24)) rfl hN h2 trivial (mM hq)
theorem mk{by_:Nat}{zd:List D}{k k':IntKind}{c:Int}[dB P t e sz by_][TyE P e zd](hx:opT sl x= .v (.c (.d g (.i k n))))(hy:opT sl y= .v (.c (.d g' (.i k' c))))(hN:nlt d N=ζ)(hc:n<=c)(hb:(by_:Int)*c<=281474976710656)(h63:c<=9223372036854775807)(hq:nxt nx=ς nx'):
 NS1 P N ⟨ς d,.makeSlice t x y,ty,ps,af,gd⟩ sl ob nx nx' d (.v (.c (.w nx n))) (.row e sz (Yo n zd) ζ ζ) ⟨d,[(x,.v (.c (.d g (.i k n)))),(y,.v (.c (.d g' (.i k' c))))],[],.v (.c (.w nx n)),[(nx,.row e sz (Yo n zd) ζ ζ)]⟩:=
 dh (st:=⟨sl,ob,nx⟩) (WN hc hb h63) rfl hN ⟨hx,hy,θ⟩ trivial (mM hq)
def pj(sl:Lab):List Operand->Option (List T)
 |[]=>ς []
 |x::xs=>match opT sl x,pj sl xs with
  | .v (.c c),ς vs=>ς (.v (.c c)::vs)
  | .v (.agg cs),ς vs=>ς (.v (.agg cs)::vs)
  |_,_=>ξ
theorem qS{sl:Lab}:∀{xs:List Operand} {ts:List T},pj sl xs=ς ts->ts.length=xs.length/\Lk sl (xs.zip ts)
 |[],vs,h=>by simp[pj] at h;subst h;exact⟨rfl,θ⟩
 |x::xs,vs,h=>by
  simp only[pj] at h
  split at h
  .rename_i c vs' h1 h2
   simp at h;subst h
   obtain⟨k1,k2⟩:=qS h2
   exact⟨by simp[k1],h1,k2⟩
  .rename_i c vs' h1 h2
   simp at h;subst h
   obtain⟨k1,k2⟩:=qS h2
   exact⟨by simp[k1],h1,k2⟩
  cases h
def As(nx:Nat):Laa->Nat->Bool
 |[],n=>f4 n nx
 |(l,_)::r,n=>(f4 l nx&&!rsv l)&&As (nx+1) r n
theorem AN:∀{nw:Laa} {nx n:Nat},As nx nw n=ζ->Nw nx nw n
 |[],nx,n,h=>Yf h
 |(l,x)::r,nx,n,h=>by
  simp only[As,hV,Yz] at h
  exact⟨⟨Yf h.1.1,h.1.2⟩,AN h.2⟩
def apO{α:Type}:List α->List α->Option (List α)
 |[],l=>ς l
 |x::xs,l=>match apO xs l with|some r=>ς (x::r)|none=>ξ
theorem rL{α:Type}:∀{xs l r:List α},apO xs l=ς r->r=xs++l
 |[],l,r,h=>by simp[apO] at h;subst h;rfl
 |x::xs,l,r,h=>by
  simp only[apO] at h
  split at h
  .rename_i q h1;simp at h;subst h;rw[rL h1];rfl
  cases h
theorem ca{f:FuncId}{args:List Operand}{tys:Array TypeId}{ts:List T}{avs:List AV}{eqs:Lac}(ht:pj sl args=ς ts:=by exact rfl)(hp:nM ob (BZ ts)=ς nob:=by exact rfl)(ha:uf nob ts=ς (avs,eqs):=by exact rfl)(hF:Fn P f avs res)(he:Eqs eqs:=by repeat (first|exact θ|refine⟨by first|rfl|exact lm _|simp,?_⟩))(hi:xF nx res=ς (out,nw,n):=by exact rfl)(hw:As nx nw n=true:=by exact rfl)(hN:nlt d N=true:=by exact rfl)(hob:apO nw ob=ς ob':=by exact rfl):
 NS P N ⟨ς d,.call ⟨.value (.func f),args.toArray,tys⟩,ty,ps,af,gd⟩ ⟨sl,ob,nx⟩ ⟨(d,out)::sl,ob',n⟩ ⟨d,args.zip ts,nob,out,nw⟩:=by
 obtain⟨h1,h2⟩:=qS ht
 rw[rL hob]
 exact dh (st:=⟨sl,ob,nx⟩) (WL h1 ha hF he hi) rfl hN h2 (oE hp) (AN hw)
theorem sp{o:Nat}{cs' ns:List C}{v:V}[TyN P t n](hx:opT sl x= .v (.c (.p o k)))(hy:opT sl y= .v v)(ho:go ob o=ς (.var vt cs))(hv:vcs v=ς ns)(hn:f4 ns.length n=ζ)(hst:ns.all C.sto=ζ)(hs:qI k ns cs=ς cs'):AWO P N ⟨ξ,.store t x y,ty,ps,af,gd⟩ ⟨sl,ob,nx⟩ ⟨sl,(o,.var vt cs')::ob,nx⟩:=NU (st:=⟨sl,ob,nx⟩) hx hy ho hv hn hst hs
theorem so{o i:Nat}{rt:TypeId}{el' ns:List D}{gg:Bool}{v:V}[TyN P t n](hx:opT sl x= .v (.c (.e o sz i j)))(hy:opT sl y= .v v)(ho:go ob o=ς (.row rt sz els g ζ))(hv:vD v=ς (ns,g'))(hn:f4 ns.length n=ζ)(he:els[i]?=ς el)(hs:qI j ns el=ς el')(hg:(g&&g')=gg):
 AWO P N ⟨ξ,.store t x y,ty,ps,af,gd⟩ ⟨sl,ob,nx⟩ ⟨sl,(o,.row rt sz (els.set i el') gg ζ)::ob,nx⟩:=by subst hg;exact NT (st:=⟨sl,ob,nx⟩) hx hy ho hv hn he hs
theorem ap{by_ o:Nat}{gy gg:Bool}{c:C}[dB P t e sz by_](hd:nlt d N=ζ)(hx:opT sl x= .v (.c (.w o n)))(hy:opT sl y= .v (.c c))(ho:go ob o=ς (.row e sz els g ζ))(hs:Src ob c ys gy)(hk:mf o sl=ς sl')(hkb:kt o ob=ς ob')(hg:(g&&gy)=gg)(hn:els.length=n)(hsz:∀e∈ys,e.length=sz)(hb:(n+ys.length)*by_<=140737488355328)(h63:n+ys.length<=9223372036854775807)(hrv:rsp o=η):
 AWO P N ⟨ς d,.call ⟨.builtin .append,#[x,y],#[t,t]⟩,ty,ps,af,gd⟩ ⟨sl,ob,nx⟩ ⟨(d,.v (.c (.w o (n+ys.length))))::sl',(o,.row e sz (els++ys) gg ζ)::ob',nx⟩:=by
 subst hg;exact JV (st:=⟨sl,ob,nx⟩) hrv (cO hd) hx hy ho hs hk hkb hn hsz hb h63
section
variable{ops:Array Oper}{l:List Oper}{o:Oper}{K:St->Prop}{KK:List Inf->St->Prop}{is:List Inf}
theorem gs{d:Tmp}(hg:o.guard=ς (j,b))(hj:(ops[j]?).bind (·.dst)=ς dj)(hdj:nlt dj N=ζ)(hb:noG b (gt sl dj)=ζ)(hd:o.dst=ς d)(hN:nlt d N=ζ)(h':AWR P N ops l ⟨(d,.tup [])::sl,ob,nx⟩ K):AWR P N ops (o::l) ⟨sl,ob,nx⟩ K:=Bl (st:=⟨sl,ob,nx⟩) hg hj (cO hdj) hb hd (cO hN) h'
theorem g2{c:Bool}(hg:o.guard=ς (j,b))(hj:(ops[j]?).bind (·.dst)=ς dj)(hb:gt sl dj=tB c)(h1:c=ζ->AWR P N ops (o::l) ⟨(dj,tB ζ)::sl,ob,nx⟩ K)(h0:c=η->AWR P N ops (o::l) ⟨(dj,tB η)::sl,ob,nx⟩ K):AWR P N ops (o::l) ⟨sl,ob,nx⟩ K:=M4 (st:=⟨sl,ob,nx⟩) hb h1 h0
theorem dgs{d:Tmp}{t:T}(hg:o.guard=ς (j,b))(hj:(ops[j]?).bind (·.dst)=ς dj)(hdj:nlt dj N=ζ)(ht:gt sl dj=t)(hb:noG b t=ζ)(hd:o.dst=ς d)(hN:nlt d N=ζ)(h':DR P N ops l (is++[⟨d,[(.tmp dj,t)],[],.tup [],[]⟩]) ⟨(d,.tup [])::sl,ob,nx⟩ KK):DR P N ops (o::l) is ⟨sl,ob,nx⟩ KK:=T0 (st:=⟨sl,ob,nx⟩) hg hj hdj ht hb hd hN h'
theorem dg2{c:Bool}(hg:o.guard=ς (j,b))(hj:(ops[j]?).bind (·.dst)=ς dj)(hb:gt sl dj=tB c)(h1:c=ζ->DR P N ops (o::l) is ⟨(dj,tB ζ)::sl,ob,nx⟩ KK)(h0:c=η->DR P N ops (o::l) is ⟨(dj,tB η)::sl,ob,nx⟩ KK):DR P N ops (o::l) is ⟨sl,ob,nx⟩ KK:=PH (st:=⟨sl,ob,nx⟩) hb h1 h0
end
def Pd:AV->Option T
 | .c (.i k n)=>ς (.v (.c (.d η (.i k n))))
 | .c (.b x)=>ς (.v (.c (.d η (.b x))))
 | .c (.str s)=>ς (.v (.c (.d η (.str s))))
 | .c (.l xs)=>ς (.v (.c (.d η (.l xs))))
 | .c (.k A n c)=>ς (.v (.c (.d η (.k A n c))))
 | .agg xs=>match ldO η xs with
  |some cs=>ς (.v (.agg cs))
  |none=>ξ
def GW:Nat->List AV->Option Lab
 |_,[]=>ς []
 |k,a::as=>match Pd a,GW (k+1) as with
  |some t,ς r=>ς ((k,t)::r)
  |_,_=>ξ
theorem EU:∀{as:List AV} {k:Nat} {r:Lab},GW k as=ς r->r=uj k as
 |[],k,r,h=>by simp[GW] at h;subst h;rfl
 |a::as,k,r,h=>by
  simp only[GW] at h
  split at h
  .rename_i t r' h1 h2
   simp at h;subst h
   rw[EU h2,uj]
   congr 2
   cases a with
   |c x=>cases x<;>simp[Pd] at h1<;>subst h1<;>rfl
   |agg xs=>
    simp only[Pd] at h1
    split at h1
    .rename_i cs h3;simp at h1;subst h1;rw[Fw h3];rfl
    cases h1
  cases h
theorem VD{f:FuncId}{fn:Func}{c:Code}{args:List AV}{rs:List ResultVar}{sl0:Lab}(hf:P.funcs[f]?=ς fn)(hb:fn.body=ς c:=by exact rfl)(hnm:(fn.name== "runtime.NumGoroutine")=false:=by kernel_rfl)(hN:fn.ntmps=N)(hrs:fn.results.toList=rs:=by exact rfl)(ha:Yk args.length N=true:=by exact rfl)(hs:GW 0 args=ς sl0:=by exact rfl)(h:AWC P N c ⟨sl0,[],0⟩ (th N P rs res)):Fn P f args res:=by
 rw[EU hs] at h
 exact fn_of hf hb hnm hN hrs ha h
end
section
variable{P:Program}{N:Nat}{K:St->Prop}{AQ:Exit->St->Prop}{s:St}{n id:Nat}
theorem tn(h:K s):rH K AQ .normal s:=h
theorem tr(h:AQ .ret s):rH K AQ .ret s:=h
theorem te(h:AQ (.exit n) s):rH K AQ (.exit n) s:=h
theorem bn(h:AQ .normal s):iY id AQ .normal s:=h
theorem br(h:AQ .ret s):iY id AQ .ret s:=h
theorem bx(hb:f4 n id=ζ)(h:AQ .normal s):iY id AQ (.exit n) s:=by simp only[iY,hb];exact h
theorem bo(hb:f4 n id=η)(h:AQ (.exit n) s):iY id AQ (.exit n) s:=by simp only[iY,hb];exact h
theorem dK{rs:List ResultVar}{res':List RV}{ls:List Nat}(h:ki P s rs vs:=by repeat' (first|exact .nil|apply ki.cons|exact .tmp rfl|exact .cell rfl rfl rfl|exact .cell1 rfl rfl))(he:um s.ob vs=ς (res',ls):=by exact rfl)(hn:lM ls=true:=by exact rfl)(hr:res'=res:=by first|rfl|simp):th N P rs res .ret s:=by
 subst hr;exact Rk ⟨vs,ls,h,he,hn⟩
theorem T9{rs:List ResultVar}{res':List RV}{ls:List Nat}(h:ki P s rs vs:=by repeat' (first|exact .nil|apply ki.cons|exact .tmp rfl|exact .cell rfl rfl rfl|exact .cell1 rfl rfl))(he:um s.ob vs=ς (res',ls):=by exact rfl)(hn:lM ls=true:=by exact rfl)(hr:res'=res:=by first|rfl|simp):th N P rs res .normal s:=by
 subst hr;exact⟨s,λ_ E _ _ h=>⟨E,h⟩,vs,ls,h,he,hn⟩
end
open Go.RowKit Go.ChangeShapes Go.WideShapes Go.Deep
inductive Sh where
 |i (k:IntKind)
 |b
 |str
 |l (e:List Sh)
variable{ss:List Go.AM.Sh}
mutual
inductive WT:Sh->D->Prop
 |i {k:IntKind} {n:Int} (h:(Lit.int k n).wf=ζ):WT (.i k) (.i k n)
 |b {x:Bool}:WT .b (.b x)
 |str {s:ByteArray} (h:s.size<=maxLen):WT .str (.str s)
 |l {e:List Sh} {xs:Lad} (hl:xs.length<=maxLen) (h:WTL e xs):WT (.l e) (.l xs)
inductive WTs:List Sh->List D->Prop
 |nil:WTs [] []
 |cons {s:Sh} {ss:List Sh} {x:D} {xs:List D} (h:WT s x) (h':WTs ss xs):WTs (s::ss) (x::xs)
inductive WTL:List Sh->Lad->Prop
 |nil {e:List Sh}:WTL e []
 |cons {e:List Sh} {x:List D} {xs:Lad} (h:WTs e x) (h':WTL e xs):WTL e (x::xs)
end
theorem WTs.len:∀{ss:List Sh} {xs:List D},WTs ss xs->xs.length=ss.length
 |_,_,.nil=>rfl
 |_,_,.cons _ h=>by simp[WTs.len h]
theorem WTs.append:∀{ss ts:List Sh} {xs ys:List D},WTs ss xs->WTs ts ys->WTs (ss++ts) (xs++ys)
 |_,_,_,_,.nil,h=>h
 |_,_,_,_,.cons h h',k=>.cons h (h'.append k)
mutual
inductive uh (P:Program):TypeId->List Sh->Prop
 |int {t:TypeId} {k:IntKind} (h:P.underlying t=ς (.int k)):uh P t [.i k]
 |bool {t:TypeId} (h:P.underlying t=ς .bool):uh P t [.b]
 |string {t:TypeId} (h:P.underlying t=ς .string):uh P t [.str]
 |slice {t e:TypeId} {ss:List Sh} (h:P.underlying t=ς (.slice e)) (he:uh P e ss) (hc:P.cellsOf e=ss.length) (hp:0<ss.length):uh P t [.l ss]
 |struct {t:TypeId} {fs:Array Field} {ss:List Sh} (h:P.underlying t=ς (.struct fs)) (hf:HasFs P 0 fs.toList ss) (hc:P.cellsOf t=ss.length):uh P t ss
inductive HasFs (P:Program):Nat->List Field->List Sh->Prop
 |nil {o:Nat}:HasFs P o [] []
 |cons {o:Nat} {f:Field} {fs:List Field} {s1 s2:List Sh} (ho:f.offset=o) (h:uh P f.type s1) (hc:P.cellsOf f.type=s1.length) (h':HasFs P (o+s1.length) fs s2):HasFs P o (f::fs) (s1++s2)
end
theorem Dw{w:World}{F:Nat->Prop}:∀{xs ys:List D} {us vs:Lae},DV w F xs us->DV w F ys vs->DV w F (xs++ys) (us++vs)
 |[],_,[],_,_,h=>h
 |_::_,_,_::_,_,h,k=>⟨h.1,Dw h.2 k⟩
 |[],_,_::_,_,h,_=>h.elim
 |_::_,_,[],_,h,_=>h.elim
section
variable{H:Type}{enc:TypeId×Value->H}{P:Program}{w:World}{spare:Nat->Bool}{held:Bool}
theorem Ef{F:Nat->Prop}:∀{xs:List D} {us:Lae} {b k:Nat},DV w F xs us->(∀j,j<us.length->w.cell? ⟨b,k+j,ξ⟩=us[j]?)->rdL w F xs b k
 |[],[],_,_,_,_=>by simp[rdL]
 |x::xs,u::us,b,k,h,hc=>by
  rw[rdL]
  refine⟨⟨u,by simpa using hc 0 (by simp),h.1⟩,Ef h.2 λj hj=>?_⟩
  have:=hc (j+1) (by simp;omega)
  grind
 |[],_::_,_,_,h,_=>h.elim
 |_::_,[],_,_,h,_=>h.elim
mutual
theorem FX:∀{t:TypeId} {ss:List Sh},uh P t ss->∀{fuel:Nat} {cs:Lae} {x:DataW H×List MemPlace},DataW.trod enc P w 0 (λ_=>ζ) held fuel t cs=ς x->
 ∃xs,WTs ss xs/\DV w (λb=>b<w.heap.size) xs cs
 |_,_,.int ht,fuel,cs,x,h=>by
  obtain⟨n,rfl,_,hw⟩:=DataW.trod_int ht h
  exact⟨[.i _ n],.cons (.i hw) .nil,by simp[rdD],θ⟩
 |_,_,.bool ht,fuel,cs,x,h=>by
  obtain⟨b,rfl,_⟩:=DataW.trod_bool ht h
  exact⟨[.b b],.cons .b .nil,by simp[rdD],θ⟩
 |_,_,.string ht,fuel,cs,x,h=>by
  obtain⟨s,rfl,_,hs⟩:=DataW.trod_string ht h
  exact⟨[.str s],.cons (.str hs) .nil,by simp[rdD],θ⟩
 |_,_,.slice (ss:=ss) (e:=e) ht he hc hp,fuel,cs,x,h=>by
  rcases open_slice ht h with⟨rfl,_⟩|⟨a,len,cap,m,n,Dt,Pl,rfl,_,hl,hm,hmm,_,hi⟩
  .exact⟨[.l []],.cons (.l (Yu _) .nil) .nil,by rw[rdD];simp_all,θ⟩
  have hmc:m=cap:=by simpa using hmm
  have each:∀i,i<len->∃xs,WTs ss xs/\∃us,us.length=ss.length/\DV w (λb=>b<w.heap.size) xs us/\∀j,j<ss.length->w.cell? ((a.add (i*ss.length)).add j)=us[j]?:=by
   intro i hil
   obtain⟨cs',h1,h2⟩:=hi i oaa
   obtain⟨_,h3,h4⟩:=World.cells?_some h1
   obtain⟨xs,k1,k2⟩:=FX he h2
   rw[hc] at h3 h4
   exact⟨xs,k1,cs',h3,k2,h4⟩
  by_cases h0:len=0
  .subst h0
   exact⟨[.l []],.cons (.l (Yu _) .nil) .nil,by rw[rdD];simp_all,θ⟩
  .
    obtain⟨xs0,k1,us0,k2,k3,k4⟩:=each 0 oaa
    have hc0:=k4 0 hp
    have hu0:∃u,us0[0]?=ς u:=⟨_,Yb oaa⟩
    obtain⟨u0,hu0⟩:=hu0
    have hcell:w.cell? a=ς u0:=by rw[<-hu0,<-hc0];simp[Addr.add]
    obtain⟨b,off,spot⟩:=a
    have hsp:spot=none:=by
     cases spot with
     |none=>rfl
     |some s=>exfalso;simp[World.cell?] at hcell;grind
    subst hsp
    have hb:b<w.heap.size:=World.block_lt_of_cell? w ⟨b,off,ξ⟩ hcell
    have build:∀n i,i+n=len->∃els,WTL ss els/\els.length=n/\(∀e'∈els,e'.length=ss.length)/\rdLL w (λb=>b<w.heap.size) els b (off+i*ss.length):=by
     intro n
     induction n with
     |zero=>intro i _;exact⟨[],.nil,rfl,by simp,by simp[rdLL]⟩
     |succ n ihn=>
      intro i hin
      obtain⟨xs,l1,us,l2,l3,l4⟩:=each i oaa
      obtain⟨els,m1,m2,m3,m4⟩:=ihn (i+1) oaa
      have hxl:=l1.len
      refine⟨xs::els,.cons l1 m1,by simp[m2],by simp_all,?_⟩
      rw[rdLL]
      refine⟨Ef l3 λj hj=>?_,?_⟩
      .have:=l4 j oaa
       rw[rK,rK] at this;exact this
      grind
    obtain⟨els,m1,m2,m3,m4⟩:=build len 0 oaa
    refine⟨[.l els],.cons (.l oaa m1) .nil,?_,θ⟩
    rw[rdD]
    grind
 |_,_,.struct (fs:=fs) ht hf hc,fuel,cs,x,h=>by
  obtain⟨ys,n,_,_,h3,h4,h5⟩:=DataW.trod_struct ht h
  have key:=open_fs hf (fuel:=n) (cs:=cs) (λf hf=>by
   obtain⟨i,hi⟩:=Yn hf
   grind)
  grind
theorem open_fs:∀{o:Nat} {fs:List Field} {ss:List Sh},HasFs P o fs ss->∀{fuel:Nat} {cs:Lae},(∀f∈fs,∃x,DataW.trod enc P w 0 (λ_=>ζ) held fuel f.type ((cs.drop f.offset).take (P.cellsOf f.type))=ς x)->
 ∃xs,WTs ss xs/\DV w (λb=>b<w.heap.size) xs ((cs.drop o).take ss.length)
 |_,_,_,.nil,fuel,cs,h=>⟨[],.nil,by simp[DV]⟩
 |o,_,_,.cons (f:=f) (s1:=s1) (s2:=s2) ho hs hc hf,fuel,cs,h=>by
  obtain⟨x,hx⟩:=h f (by simp)
  obtain⟨xs1,k1,k2⟩:=FX hs hx
  obtain⟨xs2,m1,m2⟩:=open_fs hf (λg hg=>h g (by simp[hg]))
  refine⟨xs1++xs2,k1.append m1,?_⟩
  rw[ho,hc] at k2
  have:=Dw k2 m2
  rwa [YB,List.take_add,YO]
end
theorem Rc{r:Reach}{b0:Nat}{v:Value}{s:Sh}(hs:uh P t [s])(hn:∀fs,P.underlying t≠ς (.struct fs))(hv:Value.okWide P w r b0 t v):v.cells.toList=[v]:=by
 cases hs with
 |int h=>obtain⟨n,rfl⟩:=okWide_int h hv;rfl
 |bool h=>obtain⟨n,rfl⟩:=okWide_bool h hv;rfl
 |string h=>obtain⟨n,rfl⟩:=okWide_string h hv;rfl
 |slice h=>obtain⟨a,l,c,rfl⟩:=okWide_slice h hv;rfl
 |struct h=>simp_all
theorem open_c{r:Reach}{b0:Nat}{v:Value}{d:DataW H}{p:List MemPlace}{s:Sh}(hs:uh P t [s])(hn:∀fs,P.underlying t≠ς (.struct fs))(hv:Value.okWide P w r b0 t v)(h:DataW.Trod enc P w 0 (λ_=>ζ) held t v d p):
 ∃x,WT s x/\avR w (λb=>b<w.heap.size) (.c x) v:=by
 obtain⟨fuel,hf⟩:=h
 rw[Rc hs hn hv] at hf
 obtain⟨xs,h1,h2⟩:=FX hs hf
 cases h1 with
 |cons h h'=>cases h' with
  |nil=>exact⟨_,h,h2.1⟩
end
theorem ER{α:Type}{e:List Sh}{f:α->List D}{p:α->Prop}(h:∀x,WTs e x->∃a,x=f a/\p a):∀{xs:Lad},WTL e xs->∃l:List α,xs=l.map f/\∀a∈l,p a
 |_,.nil=>⟨[],rfl,by simp⟩
 |_,.cons h1 h2=>by
  obtain⟨a,rfl,ha⟩:=h _ h1
  obtain⟨l,rfl,hl⟩:=ER h h2
  exact⟨a::l,rfl,by simp_all⟩
theorem X5{n:Int}(h:(Lit.int .i64 n).wf=ζ): -9223372036854775808<=n/\n<=9223372036854775807:=by
 have:=bounds_i64 h;omega
theorem JY(h:Da w w' (λ_=>False)):Below w.heap.size w w':=⟨h.os,h.tape,h.output,h.size,λb hb=>h.block b hb (λh=>h)⟩
theorem law_calls{f:FuncId}{args:List AV}{vals:Array Value}(h:Fn P f args [rB ζ])(hT:TabsIn w)(hA:AR w (λb=>b<w.heap.size) args vals.toList):
 Calls P f vals w λe w'=>e= .returned (.bool ζ)/\Below w.heap.size w w':=by
 refine(h.calls _ w vals (λ_ h=>h) hT hA).mono ?_
 rintro e w' ⟨v,G,bs,rfl,hp,_,hr,_⟩
 obtain⟨_,hr⟩:=hr
 simp only[rdD] at hr
 exact⟨by rw[hr],JY hp⟩
abbrev WR(n:Int):Int:=IntKind.i64.wrap n
theorem Fn.frz{f:FuncId}{args:List AV}{ty:Nat}(h:Fn P f args [.c (.own ty sz els n)])(hn:els.length=n):Fn P f args [.c (.d (.l els))]:=by
 refine⟨h.enters,λF w vals hF hT hA=>(h.calls F w vals hF hT hA).mono ?_⟩
 rintro e w' ⟨v,G,bs,rfl,hp,hG,hr,_⟩
 obtain⟨b,c,arr,rfl,rfl,hh,ha,hlc,hmx,hes,hrd,hgb,hbb⟩:=hr
 subst hn
 have hlt:b<w'.heap.size:=by
  rcases Yx b w'.heap.size with h|h
  .exact h
  simp_all
 refine⟨_,λk=>G k\/k=b,[],rfl,hp,?_,⟨rfl,?_⟩,by simp⟩
 .rintro k (hk|rfl)
  .exact hG k hk
  exact⟨hbb,hlt,.mk hh⟩
 rw[rdD]
 exact⟨_,_,rfl,hlc,.inr ⟨b,0,rfl,.inr rfl,cf (λ_ _=>rfl) (λ_ h=>.inl h) rfl _ _ hrd⟩⟩
mutual
inductive WS:Sh->D->Prop
 |i {k:IntKind} {n:Int} (h:(Lit.int k n).wf=ζ):WS (.i k) (.i k n)
 |b {x:Bool}:WS .b (.b x)
 |str {s:ByteArray} (h:s.size<=maxLen):WS .str (.str s)
 |l {e:List Sh} {xs:Lad} (hl:xs.length<=1048576) (h:WSL e xs):WS (.l e) (.l xs)
inductive WSs:List Sh->List D->Prop
 |nil:WSs [] []
 |cons {s:Sh} {ss:List Sh} {x:D} {xs:List D} (h:WS s x) (h':WSs ss xs):WSs (s::ss) (x::xs)
inductive WSL:List Sh->Lad->Prop
 |nil {e:List Sh}:WSL e []
 |cons {e:List Sh} {x:List D} {xs:Lad} (h:WSs e x) (h':WSL e xs):WSL e (x::xs)
end
mutual
def tot:D->Nat
 | .l xs=>xs.length+totLL xs
 | .i _ _=>0
 | .b _=>0
 | .str _=>0
 | .k _ _ _=>0
def totLL:Lad->Nat
 |[]=>0
 |e::es=>totL e+totLL es
def totL:List D->Nat
 |[]=>0
 |d::ds=>tot d+totL ds
end
@[simp] theorem tot_i {k:IntKind} {n:Int}:tot (.i k n)=0:=by rw[tot]
@[simp] theorem tot_b {x:Bool}:tot (.b x)=0:=by rw[tot]
@[simp] theorem tot_str {s:ByteArray}:tot (.str s)=0:=by rw[tot]
@[simp] theorem tot_l {xs:Lad}:tot (.l xs)=xs.length+totLL xs:=by rw[tot]
@[simp] theorem totL_nil:totL []=0:=by rw[totL]
@[simp] theorem totL_cons {xs:List D}:totL (x::xs)=tot x+totL xs:=by rw[totL]
@[simp] theorem totLL_nil:totLL []=0:=by rw[totLL]
@[simp] theorem totLL_cons {x:List D} {xs:Lad}:totLL (x::xs)=totL x+totLL xs:=by rw[totLL]
mutual
theorem WS_of:∀{s:Sh} {x:D},WT s x->tot x<=1048576->WS s x
 |_,_,.i h,_=>.i h
 |_,_,.b,_=>.b
 |_,_,.str h,_=>.str h
 |_,_,.l hl h,ht=>by rw[tot_l] at ht;exact .l oaa (WSL_of h oaa)
theorem O5:∀{s:List Sh} {x:List D},WTs s x->totL x<=1048576->WSs s x
 |_,_,.nil,_=>.nil
 |_,_,.cons h h',ht=>by rw[totL_cons] at ht;exact .cons (WS_of h oaa) (O5 h' oaa)
theorem WSL_of:∀{s:List Sh} {x:Lad},WTL s x->totLL x<=1048576->WSL s x
 |_,_,.nil,_=>.nil
 |_,_,.cons h h',ht=>by rw[totLL_cons] at ht;exact .cons (O5 h oaa) (WSL_of h' oaa)
end
section
variable{k:IntKind}{e ss:List Sh}{x:List D}{xs:Lad}{d:D}
theorem WS.gi(h:WS (.i k) d):∃n,d= .i k n/\(Lit.int k n).wf=true:=by cases h with|i h=>simp_all
theorem WS.gb(h:WS .b d):∃n,d= .b n:=by cases h;simp_all
theorem WS.gs(h:WS .str d):∃s,d= .str s/\s.size<=maxLen:=by cases h with|str h=>simp_all
theorem WS.gl(h:WS (.l e) d):∃ys,d= .l ys/\ys.length<=1048576/\WSL e ys:=by cases h with|l hl h=>simp_all
theorem WSs.gn(h:WSs [] x):x=[]:=by cases h;rfl
theorem WSs.gi(h:WSs (.i k::ss) x):∃n r,x= .i k n::r/\(Lit.int k n).wf=ζ/\WSs ss r:=by cases h with|cons h h'=>cases h with|i h=>grind
theorem WSs.gb(h:WSs (.b::ss) x):∃n r,x= .b n::r/\WSs ss r:=by cases h with|cons h h'=>cases h;grind
theorem WSs.gs(h:WSs (.str::ss) x):∃s r,x= .str s::r/\s.size<=maxLen/\WSs ss r:=by cases h with|cons h h'=>cases h with|str h=>grind
theorem WSs.gl(h:WSs (.l e::ss) x):∃ys r,x= .l ys::r/\ys.length<=1048576/\WSL e ys/\WSs ss r:=by cases h with|cons h h'=>cases h with|l hl h=>grind
theorem WTs.gn(h:WTs [] x):x=[]:=by cases h;rfl
theorem WTs.gi(h:WTs (.i k::ss) x):∃n r,x= .i k n::r/\(Lit.int k n).wf=ζ/\WTs ss r:=by cases h with|cons h h'=>cases h with|i h=>grind
theorem WTs.gb(h:WTs (.b::ss) x):∃n r,x= .b n::r/\WTs ss r:=by cases h with|cons h h'=>cases h;grind
theorem WTs.gs(h:WTs (.str::ss) x):∃s r,x= .str s::r/\s.size<=maxLen/\WTs ss r:=by cases h with|cons h h'=>cases h with|str h=>grind
theorem WTs.gl(h:WTs (.l e::ss) x):∃ys r,x= .l ys::r/\ys.length<=9223372036854775807/\WTL e ys/\WTs ss r:=by cases h with|cons h h'=>cases h with|l hl h=>exact⟨_,_,rfl,by unfold maxLen at hl;omega,h,h'⟩
theorem WT.gl(h:WT (.l e) d):∃ys,d= .l ys/\ys.length<=9223372036854775807/\WTL e ys:=by cases h with|l hl h=>exact⟨_,rfl,by unfold maxLen at hl;omega,h⟩
theorem WT.gi(h:WT (.i k) d):∃n,d= .i k n/\(Lit.int k n).wf=true:=by cases h with|i h=>simp_all
theorem WT.gb(h:WT .b d):∃n,d= .b n:=by cases h;simp_all
theorem WT.gs(h:WT .str d):∃s,d= .str s/\s.size<=maxLen:=by cases h with|str h=>simp_all
theorem WSs.len:∀{ss:List Sh} {xs:List D},WSs ss xs->xs.length=ss.length
 |_,_,.nil=>rfl
 |_,_,.cons _ h=>by simp[WSs.len h]
theorem WSL.len:∀{xs:Lad},WSL ss xs->∀e∈xs,e.length=ss.length
 |_,.nil=>by simp
 |_,.cons h h'=>by simpa using⟨h.len,WSL.len h'⟩
theorem WTL.len:∀{xs:Lad},WTL ss xs->∀e∈xs,e.length=ss.length
 |_,.nil=>by simp
 |_,.cons h h'=>by simpa using⟨h.len,WTL.len h'⟩
theorem WSL.get:∀{xs:Lad},WSL ss xs->∀(i:Nat) (h:i<xs.length),WSs ss xs[i]
 |_::_,.cons h h',0,_=>h
 |_::_,.cons h h',i+1,hi=>by simpa using WSL.get h' i (by simp_all)
theorem WTL.get:∀{xs:Lad},WTL ss xs->∀(i:Nat) (h:i<xs.length),WTs ss xs[i]
 |_::_,.cons h h',0,_=>h
 |_::_,.cons h h',i+1,hi=>by simpa using WTL.get h' i (by simp_all)
theorem WSL.at{k:Nat}(h:WSL ss xs)(hk:k<xs.length):∃e,xs[k]=e/\xs[(k:Int).toNat]?=ς e/\WSs ss e:=⟨_,rfl,by simp[hk],h.get k hk⟩
theorem WTL.at{k:Nat}(h:WTL ss xs)(hk:k<xs.length):∃e,xs[k]=e/\xs[(k:Int).toNat]?=ς e/\WTs ss e:=⟨_,rfl,by simp[hk],h.get k hk⟩
end
section
variable{P:Program}{d:Option Tmp}{ty:TypeId}{ps:String}{af:Array Edge}{gd:Option (Nat×Bool)}{x y z:Operand}
@[irreducible] def booB (a b:Bool):Bool:=a==b
@[simp] theorem booB_t {a:Bool}:booB a b=ζ↔a=b:=by simp[booB]
@[simp] theorem booB_f {a:Bool}:booB a b=η↔a≠b:=by simp[booB]
theorem QJ{a:Bool}[ht:TyU P t .bool]:
 AWN P ⟨d,.binOp .eql t x y t',ty,ps,af,gd⟩ [(x,.v (.c (.d g (.b a)))),(y,.v (.c (.d g' (.b b))))] [] (.v (.c (.d η (.b (booB a b))))) []:=
 cd λE ac w hn _=>by
  have h1:=tw (hn x _ (.head _))
  have h2:=tw (hn y _ (.tail _ (.head _)))
  exact⟨.bool (a==b),by simp[execOp,h1,h2,eqGuard,binOp,run_equal_bool w t a b ht.h],by simp[cvT,cvV,cvC,rdD,booB]⟩
theorem QK{a:Bool}[ht:TyU P t .bool]:
 AWN P ⟨d,.binOp .neq t x y t',ty,ps,af,gd⟩ [(x,.v (.c (.d g (.b a)))),(y,.v (.c (.d g' (.b b))))] [] (.v (.c (.d η (.b (!booB a b))))) []:=
 cd λE ac w hn _=>by
  have h1:=tw (hn x _ (.head _))
  have h2:=tw (hn y _ (.tail _ (.head _)))
  exact⟨.bool (!(a==b)),by simp[execOp,h1,h2,eqGuard,binOp,run_equal_bool w t a b ht.h],by simp[cvT,cvV,cvC,rdD,booB]⟩
theorem we{e:TypeId}(h:P.underlying t=ς (.slice e)):P.elem t=e/\P.underlying t=ς (.slice (P.elem t)):=by
 have:P.elem t=e:=by simp[Program.elem,h]
 simp_all
theorem Eg{F:Nat->Prop}{xs:Lad}{A:Option Addr}{c h:Nat}(hs:∀e∈xs,e.length=sz)(h1:l<=h)(h2:h<=xs.length)(hlc:xs.length<=c)(hr:xs=[]\/∃b off,A=ς ⟨b,off,ξ⟩/\F b/\rdLL w F xs b off):rdD w F (.l ((xs.take h).drop l)) (sliced A l h c sz):=by
 have hl:((xs.take h).drop l).length=h-l:=by simp;omega
 rw[rdD,hl]
 refine⟨_,_,rfl,by omega,?_⟩
 by_cases hlh:h=l
 .simp_all
 right
 rcases hr with rfl|⟨b,off,rfl,hb,hr⟩
 .simp_all
 rw[if_neg oaa]
 exact⟨b,off+l*sz,by simp[Addr.add],hb,sJ (nY h hr) (λe he=>hs e (YG he)) l⟩
theorem JO{t by_:Nat}{g2:Bool}{xs:Lad}{h:Int}{hi:Operand}[ht:dB P t e sz by_](hs:∀e∈xs,e.length=sz)(h0:0<=h)(h2:h<=xs.length):
 AWN P ⟨d,.slice t x ξ (ς hi) ξ,ty,ps,af,gd⟩ [(x,.v (.c (.d g (.l xs)))),(hi,.v (.c (.d g2 (.i .i64 h))))] [] (.v (.c (.d g (.l (xs.take h.toNat))))) []:=
 cd λE ac w hn _=>by
  have k1:=hn x _ (.head _)
  have k3:=gz (hn hi _ (.tail _ (.head _)))
  simp only[cvT,cvV,cvC,rdD] at k1
  obtain⟨A,c,hu,hlc,hr⟩:=k1
  obtain⟨i,z,hi1,hi2,_⟩:=ht.i
  obtain⟨he,hu'⟩:=we ht.u
  refine⟨sliced A 0 h.toNat c sz,?_,by have:=Eg (l:=0) (h:=h.toNat) hs oaa oaa hlc hr;rw[YX] at this;exact this⟩
  simp[execOp,hu,k3,run_sliceAt_slice w t _ _ _ _ hu',run_slice_h w t A xs.length c hu' .i64 h h0 oaa,he,eA hi1,hi2]
theorem JP{t by_:Nat}{g2:Bool}{xs:Lad}{l:Int}{lo:Operand}[ht:dB P t e sz by_](hs:∀e∈xs,e.length=sz)(h0:0<=l)(h2:l<=xs.length):
 AWN P ⟨d,.slice t x (ς lo) ξ ξ,ty,ps,af,gd⟩ [(x,.v (.c (.d g (.l xs)))),(lo,.v (.c (.d g2 (.i .i64 l))))] [] (.v (.c (.d g (.l (xs.drop l.toNat))))) []:=
 cd λE ac w hn _=>by
  have k1:=hn x _ (.head _)
  have k3:=gz (hn lo _ (.tail _ (.head _)))
  simp only[cvT,cvV,cvC,rdD] at k1
  obtain⟨A,c,hu,hlc,hr⟩:=k1
  obtain⟨i,z,hi1,hi2,_⟩:=ht.i
  obtain⟨he,hu'⟩:=we ht.u
  refine⟨sliced A l.toNat xs.length c sz,?_,by have:=Eg (l:=l.toNat) (h:=xs.length) hs oaa oaa hlc hr;rw[List.take_length] at this;exact this⟩
  simp[execOp,hu,k3,run_sliceAt_slice w t _ _ _ _ hu',run_slice_l w t A xs.length c hu' .i64 l h0 oaa,he,eA hi1,hi2]
end
section
variable{P:Program}{N:Nat}{d:Tmp}{ty:TypeId}{ps:String}{af:Array Edge}{gd:Option (Nat×Bool)}{x y z:Operand}{sl:Lab}{ob:Laa}{nx:Nat}
theorem bq{a:Bool}[TyU P t .bool](hx:opT sl x= .v (.c (.d g (.b a))))(hy:opT sl y= .v (.c (.d g' (.b b))))(hN:nlt d N=ζ):
 NS0 P N ⟨ς d,.binOp .eql t x y t',ty,ps,af,gd⟩ sl ob nx d (tB (booB a b)) ⟨d,[(x,.v (.c (.d g (.b a)))),(y,.v (.c (.d g' (.b b))))],[],tB (booB a b),[]⟩:=dh (st:=⟨sl,ob,nx⟩) QJ rfl hN ⟨hx,hy,θ⟩ trivial rfl
theorem bne{a:Bool}[TyU P t .bool](hx:opT sl x= .v (.c (.d g (.b a))))(hy:opT sl y= .v (.c (.d g' (.b b))))(hN:nlt d N=ζ):
 NS0 P N ⟨ς d,.binOp .neq t x y t',ty,ps,af,gd⟩ sl ob nx d (tB (!booB a b)) ⟨d,[(x,.v (.c (.d g (.b a)))),(y,.v (.c (.d g' (.b b))))],[],tB (!booB a b),[]⟩:=dh (st:=⟨sl,ob,nx⟩) QK rfl hN ⟨hx,hy,θ⟩ trivial rfl
theorem cdh{t by_:Nat}{g2:Bool}{xs:Lad}{h:Int}{hi:Operand}[ht:dB P t e sz by_](hx:opT sl x= .v (.c (.d g (.l xs))))(hh:opT sl hi= .v (.c (.d g2 (.i .i64 h))))(hN:nlt d N=ζ)(hs:∀e∈xs,e.length=sz)(h0:0<=h)(h2:h<=xs.length):
 NS0 P N ⟨ς d,.slice t x ξ (ς hi) ξ,ty,ps,af,gd⟩ sl ob nx d (.v (.c (.d g (.l (xs.take h.toNat))))) ⟨d,[(x,.v (.c (.d g (.l xs)))),(hi,.v (.c (.d g2 (.i .i64 h))))],[],.v (.c (.d g (.l (xs.take h.toNat)))),[]⟩:=
 dh (st:=⟨sl,ob,nx⟩) (JO hs h0 h2) rfl hN ⟨hx,hh,θ⟩ trivial rfl
theorem cdl{t by_:Nat}{g2:Bool}{xs:Lad}{l:Int}{lo:Operand}[ht:dB P t e sz by_](hx:opT sl x= .v (.c (.d g (.l xs))))(hl:opT sl lo= .v (.c (.d g2 (.i .i64 l))))(hN:nlt d N=ζ)(hs:∀e∈xs,e.length=sz)(h0:0<=l)(h2:l<=xs.length):
 NS0 P N ⟨ς d,.slice t x (ς lo) ξ ξ,ty,ps,af,gd⟩ sl ob nx d (.v (.c (.d g (.l (xs.drop l.toNat))))) ⟨d,[(x,.v (.c (.d g (.l xs)))),(lo,.v (.c (.d g2 (.i .i64 l))))],[],.v (.c (.d g (.l (xs.drop l.toNat)))),[]⟩:=
 dh (st:=⟨sl,ob,nx⟩) (JP hs h0 h2) rfl hN ⟨hx,hl,θ⟩ trivial rfl
end
def fi(e:List D)(j:Nat):Int:=match e[j]? with|some (.i _ n)=>n|_=>0
def fb(e:List D)(j:Nat):Bool:=match e[j]? with|some (.b n)=>n|_=>η
def fs(e:List D)(j:Nat):ByteArray:=match e[j]? with|some (.str n)=>n|_=>⟨#[]⟩
def fl(e:List D)(j:Nat):Lad:=match e[j]? with|some (.l n)=>n|_=>[]
@[simp] theorem fi_0 {k:IntKind} {n:Int} :fi (.i k n::r) 0=n:=rfl
@[simp] theorem fb_0 {n:Bool} :fb (.b n::r) 0=n:=rfl
@[simp] theorem fs_0 {n:ByteArray} :fs (.str n::r) 0=n:=rfl
@[simp] theorem fl_0 {n:Lad} :fl (.l n::r) 0=n:=rfl
@[simp] theorem fi_s {d:D} :fi (d::r) (j+1)=fi r j:=rfl
@[simp] theorem fb_s {d:D} :fb (d::r) (j+1)=fb r j:=rfl
@[simp] theorem fs_s {d:D} :fs (d::r) (j+1)=fs r j:=rfl
@[simp] theorem fl_s {d:D} :fl (d::r) (j+1)=fl r j:=rfl
def nT{α:Type}(f:α->Bool):Int->List α->Int
 |_,[]=> -1
 |i,a::l=>bif f a then i else nT f (i+1) l
theorem Qk{f:α->Bool}{l:List α}(h:k<l.length):nT f i (l.drop k)=bif f l[k] then i else nT f (i+1) (l.drop (k+1)):=by rw[YS h];rfl
theorem eG{ob:Laa}{o ty:Nat}(ho:go ob o=ς (.row ty sz els g ζ):=by exact rfl)(hlt:rsv o=false:=by exact rfl):
 cM N ⟨sl,ob,nx⟩ ⟨sl,(o,.row ty sz els g η)::ob,nx⟩:=by
 intro cx E a w hR
 obtain⟨b,c,arr,hr,hh,ha,hlc,hmx,hes,hrd,hFm,_⟩:=hR.obs o _ ho
 have hF:=hFm rfl
 obtain⟨hb1,hb2⟩:=hR.ok.rb o b c hr
 have hb3:cx.w0.heap.size<=b:=by
  rcases hb2 with h|h
  .exact h
  simp_all
 let E':Env:=⟨E.r,λk=>E.F k\/k=b,λk=>E.G k\/(g=ζ/\k=b),E.T,E.Z,E.n⟩
 have hH:∀g' k,E.H g' k->E'.H g' k:=λg' k hk=>by cases g'<;>exact .inl hk
 have hk:jV E w E' w:=⟨λ_ _ h=>h,hH,λ_ _ _=>rfl,λ_ _ h=>⟨h,rfl⟩,λ_ h=>⟨h,.refl _ _⟩,rfl⟩
 refine⟨E',⟨?_,?_,?_,hR.ok.rb,hR.ok.inj,hR.ok.os,hR.ok.tape,hR.ok.output,hR.ok.size,hR.ok.block,hR.ok.pin,λk hk=>hk.elim (hR.ok.ff k) (λe=>.inr (e▸hb3)),λk hk hk'=>hk.elim (λh=>hR.ok.gc k h hk') (λe=>e▸.mk hh),
  ⟨λl k h=>?_,hR.ok.sf.tt,λk h=>?_,hR.ok.sf.zs,hR.ok.sf.ze⟩⟩,hR.dom,λl x hl=>?_,λk=>jM hk (hR.sl k),hR.dfr,hR.size,hR.td⟩
 .rintro k (h|rfl)
  .exact hR.ok.fb k h
  exact hb1
 .rintro k (h|⟨_,rfl⟩)
  .exact .inl (hR.ok.gf k h)
  omega
 .rintro k (h|⟨_,rfl⟩)
  .exact hR.ok.gn k h
  omega
 .obtain⟨h1,h2,h3,h4⟩:=hR.ok.sf.tb l k h
  grind
 .obtain⟨h1,h2,h3,h4⟩:=hR.ok.sf.zc k h
  grind
 by_cases hol:o=l
 .subst hol
  rw[b9] at hl
  cases hl
  exact⟨b,c,arr,hr,hh,ha,hlc,hmx,hes,cf (λ_ _=>rfl) (hH g) rfl _ _ hrd,(λh=>by cases h),λ_=>⟨.inr rfl,λhg=>.inr ⟨hg,rfl⟩⟩⟩
 rw[bG _ _ hol] at hl
 refine f8 hk (λ_ _ _=>rfl) (λb' c' hr' hn hn'=>?_) (hR.obs l x hl)
 rcases hn' with h|h
 .exact hn h
 subst h;exact hol (hR.ok.inj _ _ _ _ _ hr hr')
def dfz(ob:Laa):C->Option (C×Lac)
 | .w o n=>match go ob o with
  |some (.row _ _ els g η)=>ς (.d g (.l els),[(els.length,n)])
  |_=>ς (.w o n,[])
 |c=>ς (c,[])
def Jv(ob:Laa):List C->Option (List C×Lac)
 |[]=>ς ([],[])
 |c::cs=>match dfz ob c,Jv ob cs with
  |some (x,e),ς (xs,es)=>ς (x::xs,e++es)
  |_,_=>ξ
def vfz(ob:Laa):T->Option (T×Lac)
 | .v (.c c)=>match dfz ob c with
  |some (x,e)=>ς (.v (.c x),e)
  |none=>ξ
 | .v (.agg cs)=>match Jv ob cs with
  |some (x,e)=>ς (.v (.agg x),e)
  |none=>ξ
 |_=>ξ
theorem PE{ob:Laa}(hob:∀l x,go ob l=ς x->cB E w l x){c c':C}{e:Lac}(h:dfz ob c=ς (c',e))(he:Eqs e)(hc:cvC E w c u):cvC E w c' u:=by
 unfold dfz at h
 split at h
 .rename_i o n
  split at h
  .rename_i ho
   simp at h;obtain⟨rfl,rfl⟩:=h
   obtain⟨b,c,hr,rfl⟩:=hc
   obtain⟨b',c',arr,hr',hh,ha,hlc,hmx,hes,hrd,_,hFm⟩:=hob o _ ho
   rw[hr] at hr';cases hr'
   obtain⟨h1,h2⟩:=hFm rfl
   have hn:=he.1
   subst hn
   show rdD _ _ _ _
   rw[rdD]
   refine⟨_,_,rfl,hlc,.inr ⟨b,0,rfl,?_,hrd⟩⟩
   rename_i g _
   cases g
   .exact h1
   exact h2 rfl
  simp_all
 simp_all
theorem Ff{E:Env}{w:World}{ob:Laa}(hob:∀l x,go ob l=ς x->cB E w l x):∀{cs cs':List C} {e:Lac} {us:Lae},Jv ob cs=ς (cs',e)->Eqs e->CV E w cs us->CV E w cs' us
 |[],cs',e,us,h,he,hc=>by simp[Jv] at h;simp_all
 |c::cs,cs',e,us,h,he,hc=>by
  cases us with
  |nil=>exact hc.elim
  |cons u us=>
   simp only[Jv] at h
   split at h
   .rename_i h1 h2
    simp at h;obtain⟨rfl,rfl⟩:=h
    obtain⟨k1,k2⟩:=dO he
    exact⟨PE hob h1 k1 hc.1,Ff hob h2 k2 hc.2⟩
   cases h
theorem fc{ob:Laa}{t t':T}{e:Lac}(hk:gt sl k=t:=by exact rfl)(hv:vfz ob t=ς (t',e):=by exact rfl)(he:Eqs e:=by repeat (first|exact θ|refine⟨by first|rfl|exact lm _|simp,?_⟩)):cM N ⟨sl,ob,nx⟩ ⟨(k,t')::sl,ob,nx⟩:=by
 intro cx E a w hR
 refine⟨E,hR.ok,hR.dom,hR.obs,λj=>?_,hR.dfr,hR.size,hR.td⟩
 by_cases hj:k=j
 .subst hj
  rw[cW]
  have:=hR.sl k
  rw[hk] at this
  unfold vfz at hv
  split at hv
  .split at hv
   .rename_i h1;simp at hv;obtain⟨rfl,rfl⟩:=hv;exact PE hR.obs h1 he this
   cases hv
  .split at hv
   .rename_i h1;simp at hv;obtain⟨rfl,rfl⟩:=hv;obtain⟨arr,hu,hc⟩:=this;exact⟨arr,hu,Ff hR.obs h1 he hc⟩
   cases hv
  cases hv
 rw[cy _ _ hj];exact hR.sl j
inductive cH (σ ρ:Type) where
 |next (x:σ)
 |done (r:ρ)
def iter{σ ρ:Type}(step:σ->Option (cH σ ρ)):Nat->σ->Option ρ
 |0,_=>ξ
 |n+1,x=>match step x with
  |some (.next x')=>iter step n x'
  |some (.done r)=>ς r
  |none=>ξ
def dn(o:Option ρ):Option (cH σ ρ):=match o with|some r=>ς (.done r)|none=>ξ
@[irreducible] def FU:Nat:=18446744073709551616
def ix(xs:List α)(i:Int):Option α:=bif leB 0 i then xs[i.toNat]? else ξ
theorem bt{x y:Option α}{r:Option α}(h:b=ζ)(H:(bif b then x else y)=r):x=r:=by simp_all
theorem bf{x y:Option α}{r:Option α}(h:b=η)(H:(bif b then x else y)=r):y=r:=by simp_all
theorem ob{β:Type}{o:Option α}{k:α->Option β}{r:β}(H:Option.bind o k=ς r):∃a,o=ς a/\k a=ς r:=Option.bind_eq_some_iff.1 H
theorem rq{x:Option α}{r:α}(H:(bif b then x else ξ)=ς r):b=ζ/\x=ς r:=by
 grind
theorem dnE{m:Option ρ}{o:cH σ ρ}(H:dn m=ς o):∃r,m=ς r/\o= .done r:=by
 cases m with
 |none=>cases H
 |some r=>exact⟨r,rfl,(Option.some.inj H).symm⟩
theorem ixE{xs:List α}{x:α}(H:ix xs i=ς x):0<=i/\xs[i.toNat]?=ς x:=by
 unfold ix at H
 obtain⟨h,H⟩:=rq H
 simp_all
theorem Qw{xs:List α}{x:α}(H:ix xs i=ς x):i<xs.length:=by
 obtain⟨h0,h1⟩:=ixE H
 grind
theorem js{β:Type}{xs:List α}{x:α}(f:α->β)(H:ix xs i=ς x):(xs.map f)[i.toNat]?=ς (f x):=by
 rw[YM,(ixE H).2];rfl
section
variable{P:Program}{N:Nat}{st:St}{AQ:Exit->St->Prop}
theorem aJ{a b c:St}(h:cM N a b)(k:cM N b c):cM N a c:=λcx E ac w hR=>let ⟨E',h'⟩:=h cx E ac w hR;k cx E' ac w h'
theorem kU(a:St):cM N a a:=λ_ E _ _ h=>⟨E,h⟩
class Clo(N:Nat)(AQ:Exit->St->Prop):Prop where
 h:∀e s m,cM N s m->AQ e m->AQ e s
instance {rs:List ResultVar} {res:List RV}:Clo N (th N P rs res):=⟨λe s m hw h=>by
 cases e<;>simp only[th] at h ⊢<;>first|exact h|(obtain⟨s',h1,h2⟩:=h;exact⟨s',aJ hw h1,h2⟩)⟩
instance {y:Code} [c:Clo N AQ]:Clo N (rH (λs=>AWC P N y s AQ) AQ):=⟨λe s m hw h=>by
 cases e<;>first|exact fo hw h|exact c.h _ _ _ hw h⟩
instance {id:Nat} [c:Clo N AQ]:Clo N (iY id AQ):=⟨λe s m hw h=>by
 cases e with
 |exit n=>
  simp only[iY] at h ⊢
  cases hb:f4 n id<;>rw[hb] at h<;>exact c.h _ _ _ hw h
 |_=>exact c.h _ _ _ hw h⟩
instance {M:St} [c:Clo N AQ]:Clo N (rH (λs=>cM N s M) AQ):=⟨λe s m hw h=>by
 cases e<;>first|exact aJ hw h|exact c.h _ _ _ hw h⟩
def eN(N:Nat)(S:σ->St)(r:ρ)(o:cH σ ρ)(AQ:Exit->St->Prop):Exit->St->Prop:=
 rH (λs=>∃x',o= .next x'/\cM N s (S x')) (λe s=>∃r',o= .done r'/\(r'=r->AQ e s))
instance {σ ρ:Type} {S:σ->St} {r:ρ} {o:cH σ ρ} [c:Clo N AQ]:Clo N (eN N S r o AQ):=⟨λe s m hw h=>by
 cases e<;>first
  |(obtain⟨x',h1,h2⟩:=h;exact⟨x',h1,aJ hw h2⟩)
  |(obtain⟨r',h1,h2⟩:=h;exact⟨r',h1,λhq=>c.h _ _ _ hw (h2 hq)⟩)⟩
theorem qF{S:σ->St}{r:ρ}{x':σ}{s:St}(h:cM N s (S x')):eN (ρ:=ρ) N S r (.next x') AQ .normal s:=⟨x',rfl,h⟩
theorem wQ{S:σ->St}{r r':ρ}{s:St}(h:r'=r->AQ (.exit n) s):eN N S r (cH.done r') AQ (.exit n) s:=⟨r',rfl,h⟩
theorem iq_r{S:σ->St}{r r':ρ}{s:St}(h:r'=r->AQ .ret s):eN N S r (cH.done r') AQ .ret s:=⟨r',rfl,h⟩
theorem km{x:Code}(M:St)[c:Clo N AQ](h1:AWC P N x st (rH (λs=>cM N s M) AQ))(h2:AQ .normal M):AWC P N x st AQ:=
 xZ h1 λe s h=>by
  cases e<;>first|exact c.h _ _ _ h h2|exact h
theorem iX{x:Code}(M:St)[c:Clo N AQ](h1:AWC P N x st (iY id (rH (λs=>cM N s M) AQ)))(h2:AQ .normal M):AWC P N x st (iY id AQ):=
 xZ h1 λe s h=>by
  cases e with
  |exit n=>
   simp only[iY] at h ⊢
   cases hb:f4 n id<;>rw[hb] at h
   .exact h
   exact c.h _ _ _ h h2
  |normal=>exact c.h _ _ _ h h2
  |_=>exact h
class C8(N:Nat)(K:St->Prop):Prop where
 h:∀s m,cM N s m->K m->K s
instance {y:Code}:C8 N (λs=>AWC P N y s AQ):=⟨λs m hw h=>fo hw h⟩
instance [c:Clo N AQ]:C8 N (λs=>AQ .normal s):=⟨λs m hw h=>c.h _ _ _ hw h⟩
instance {M:St}:C8 N (λs=>cM N s M):=⟨λs m hw h=>aJ hw h⟩
theorem yb{ops:Array Oper}{l:List Oper}{K:St->Prop}(M:St)[c:C8 N K](h1:AWR P N ops l st (λs=>cM N s M))(h2:K M):AWR P N ops l st K:=
 Pi (λs h=>c.h _ _ h h2) h1
theorem K5{ops:Array Oper}{K K':List Inf->St->Prop}(hk:∀is s,K is s->K' is s):∀{l:List Oper} {is:List Inf} {st:St},DR P N ops l is st K->DR P N ops l is st K'
 |[],is,st,h=>hk _ _ h
 |o::l,is,st,h=>by
  obtain⟨x,s1,s2,h1,h2,h3⟩:=h
  exact⟨x,s1,s2,h1,h2,K5 hk h3⟩
theorem yl{ops ops':Array Oper}{l:List Oper}{is:List Inf}{K:St->Prop}(M:St)[c:C8 N K](h1:DR P N ops l is st (λis t=>xB ops' is nx=ζ/\cM N t M))(h2:K M):DR P N ops l is st (λis t=>xB ops' is nx=ζ/\K t):=
 K5 (λis s h=>⟨h.1,c.h _ _ h.2 h2⟩) h1
theorem jy{c:Code}{step:σ->Option (cH σ ρ)}{x0:σ}{r:ρ}(S:σ->St)(H:iter step n x0=ς r)(h0:cM N st (S x0))(round:∀x o,step x=ς o->AWC P N c (S x) (eN N S r o AQ)):AWC P N (.loop c) st AQ:=by
 refine Pg (σ:=Nat×σ) (λp=>iter step p.1 p.2=ς r) (λp=>S p.2) (λp=>p.1) (n,x0) H h0 ?_
 rintro⟨m,x⟩ hI
 cases m with
 |zero=>cases hI
 |succ m=>
  simp only[iter] at hI
  cases hs:step x with
  |none=>simp_all
  |some o=>
   rw[hs] at hI
   refine xZ (round x o hs) λe s h=>?_
   cases o with
   |next x'=>
    cases e with
    |normal=>
     obtain⟨x'',hx,hw⟩:=h
     cases hx
     exact⟨(m,x'),hI,hw,Nat.lt_succ_self _⟩
    |_=>obtain⟨r',hx,_⟩:=h;cases hx
   |done r'=>
    cases hI
    cases e with
    |normal=>obtain⟨x'',hx,hw⟩:=h;cases hx
    |_=>obtain⟨r'',hx,h⟩:=h;cases hx;exact h rfl
end
def u6(by_:Nat)(n c:Int):Bool:=decide (0<=n/\n<=c/\(by_:Int)*c<=281474976710656/\c<=9223372036854775807)
def cN(by_ n:Nat):Bool:=decide (n*by_<=140737488355328/\n<=9223372036854775807)
theorem B3{enc:α->List D}(h:∀a,(enc a).length=n)(l:List α):∀e∈l.map enc,e.length=n:=by
 simp_all
theorem lm{enc:α->List D}(l:List α):(l.map enc).length=l.length:=YA _
section
variable{P:Program}{N:Nat}{d:Tmp}{ty:TypeId}{ps:String}{af:Array Edge}{gd:Option (Nat×Bool)}{x y z:Operand}{sl:Lab}{ob:Laa}{nx:Nat}
variable{α:Type}{enc:α->List D}
theorem xdT{by_:Nat}{xs:List α}{a:α}[dB P t e sz by_](H:ix xs i=ς a)(henc:∀a,(enc a).length=sz:=by exact λ_=>rfl)(hx:opT sl x= .v (.c (.d g (.l (xs.map enc)))):=by exact rfl)(hy:opT sl y= .v (.c (.d g' (.i kd i))):=by exact rfl)(hN:nlt d N=true:=by exact rfl):
 NS0 P N ⟨ς d,.indexAddr t x y,ty,ps,af,gd⟩ sl ob nx d (.v (.c (.q g (enc a) 0))) ⟨d,[(x,.v (.c (.d g (.l (xs.map enc))))),(y,.v (.c (.d g' (.i kd i))))],[],.v (.c (.q g (enc a) 0)),[]⟩:=
 xd hx hy hN (ixE H).1 (js enc H) (B3 henc xs)
theorem xwT{by_:Nat}{o:Nat}{ys:List α}{a:α}[dB P t e sz by_](H:ix ys i=ς a)(hx:opT sl x= .v (.c (.w o n)):=by exact rfl)(hy:opT sl y= .v (.c (.d g (.i kd i))):=by exact rfl)(hn:ys.length=n:=by first|rfl|simp)(hN:nlt d N=true:=by exact rfl):
 NS0 P N ⟨ς d,.indexAddr t x y,ty,ps,af,gd⟩ sl ob nx d (.v (.c (.e o sz i.toNat 0))) ⟨d,[(x,.v (.c (.w o n))),(y,.v (.c (.d g (.i kd i))))],[],.v (.c (.e o sz i.toNat 0)),[]⟩:=
 xw hx hy hN (ixE H).1 (by have:=Qw H;omega)
theorem mkT{by_:Nat}{zd:List D}{k k':IntKind}{n c:Int}{za:α}[dB P t e sz by_][TyE P e zd](H:u6 by_ n c=ζ)(hz:enc za=zd)(hx:opT sl x= .v (.c (.d g (.i k n))):=by exact rfl)(hy:opT sl y= .v (.c (.d g' (.i k' c))):=by exact rfl)(hN:nlt d N=true:=by exact rfl)(hq:nxt nx=ς nx':=by exact rfl):
 NS1 P N ⟨ς d,.makeSlice t x y,ty,ps,af,gd⟩ sl ob nx nx' d (.v (.c (.w nx (Yo n.toNat za).length))) (.row e sz ((Yo n.toNat za).map enc) ζ ζ) ⟨d,[(x,.v (.c (.d g (.i k n)))),(y,.v (.c (.d g' (.i k' c))))],[],.v (.c (.w nx (Yo n.toNat za).length)),[(nx,.row e sz ((Yo n.toNat za).map enc) ζ ζ)]⟩:=by
 simp only[u6,decide_eq_true_eq] at H
 have hn:(n.toNat:Int)=n:=by omega
 have:=mk (P:=P) (N:=N) (d:=d) (ty:=ty) (ps:=ps) (af:=af) (gd:=gd) (ob:=ob) (sl:=sl) (nx:=nx) (nx':=nx') (t:=t) (e:=e) (sz:=sz) (by_:=by_) (zd:=zd) (x:=x) (y:=y) (n:=n.toNat) (by rw[hn];exact hx) hy hN oaa oaa oaa hq
 simp_all
theorem apT{by_ o:Nat}{ys zs:List α}{zd:Lad}{gy gg:Bool}{c:C}[dB P t e sz by_](H:cN by_ (ys++zs).length=ζ)(hzd:zs.map enc=zd:=by exact rfl)(henc:∀a,(enc a).length=sz:=by exact λ_=>rfl)(hd:nlt d N=true:=by exact rfl)(hx:opT sl x= .v (.c (.w o n)):=by exact rfl)(hy:opT sl y= .v (.c c):=by exact rfl)(hn:ys.length=n:=by first|rfl|simp)(hs:Src ob c zd gy:=by first|exact .d|exact .nil|exact .w rfl (by first|rfl|exact lm _|simp)|exact .wn rfl (by first|rfl|exact lm _|simp))(ho:go ob o=ς (.row e sz (ys.map enc) g ζ):=by exact rfl)(hk:mf o sl=ς sl':=by exact rfl)(hkb:kt o ob=ς ob':=by exact rfl)(hg:(g&&gy)=gg:=by exact rfl)(hrv:rsp o=false:=by exact rfl):
 AWO P N ⟨ς d,.call ⟨.builtin .append,#[x,y],#[t,t]⟩,ty,ps,af,gd⟩ ⟨sl,ob,nx⟩ ⟨(d,.v (.c (.w o (ys++zs).length)))::sl',(o,.row e sz ((ys++zs).map enc) gg ζ)::ob',nx⟩:=by
 subst hzd
 simp only[cN,decide_eq_true_eq,YB] at H
 have:=ap (P:=P) (N:=N) (d:=d) (ty:=ty) (ps:=ps) (af:=af) (gd:=gd) (nx:=nx) (t:=t) (e:=e) (sz:=sz) (by_:=by_) hd hx hy ho hs hk hkb hg (by simp_all) (B3 henc zs) (by simp_all) (by simp_all) hrv
 simp_all
theorem soT{o:Nat}{rt:TypeId}{ys:List α}{a a':α}{ns:List D}{gg:Bool}{v:V}[TyN P t n](H:ix ys i=ς a)(hx:opT sl x= .v (.c (.e o sz i.toNat j)):=by exact rfl)(hy:opT sl y= .v v:=by exact rfl)(ho:go ob o=ς (.row rt sz (ys.map enc) g ζ):=by exact rfl)(hv:vD v=ς (ns,g'):=by exact rfl)(hn:f4 ns.length n=true:=by exact rfl)(hs:qI j ns (enc a)=ς (enc a'):=by exact rfl)(hg:(g&&g')=gg:=by exact rfl):
 AWO P N ⟨ξ,.store t x y,ty,ps,af,gd⟩ ⟨sl,ob,nx⟩ ⟨sl,(o,.row rt sz ((ys.set i.toNat a').map enc) gg ζ)::ob,nx⟩:=by
 have:=so (P:=P) (N:=N) (ty:=ty) (ps:=ps) (af:=af) (gd:=gd) (nx:=nx) (t:=t) (n:=n) hx hy ho hv hn (js enc H) hs hg
 simp_all
end
def eI(n:Int):List D:=[.i .i64 n]
def eU8(n:Int):List D:=[.i .u8 n]
def eS(s:ByteArray):List D:=[.str s]
def eT(a b:ByteArray):Bool:=decide (a.size+b.size<=9223372036854775807)
def fa(xs:List α)(l h:Int):Bool:=decide (0<=l/\l<=h/\h<=xs.length)
theorem ne0{b:Int}(h:(!eqB b 0)=ζ):b≠0:=by simp_all
theorem wn{o n':Nat}(h:gt sl k= .v (.c (.w o n)))(hn:n=n'):gt sl k= .v (.c (.w o n')):=hn▸h
section
variable{P:Program}{N:Nat}{d:Tmp}{ty:TypeId}{ps:String}{af:Array Edge}{gd:Option (Nat×Bool)}{x y z:Operand}{sl:Lab}{ob:Laa}{nx:Nat}
variable{α:Type}{enc:α->List D}
theorem ldT{xs:List α}{by_:Nat}[dB P t e sz by_](hx:opT sl x= .v (.c (.d g (.l (xs.map enc)))))(hN:nlt d N=ζ):
 NS0 P N ⟨ς d,.call ⟨.builtin .len,#[x],#[t]⟩,ty,ps,af,gd⟩ sl ob nx d (tI xs.length) ⟨d,[(x,.v (.c (.d g (.l (xs.map enc)))))],[],tI xs.length,[]⟩:=by
 have:=ld (P:=P) (N:=N) (d:=d) (ty:=ty) (ps:=ps) (af:=af) (gd:=gd) (ob:=ob) (nx:=nx) (t:=t) hx hN
 simp_all
theorem saT{a b:ByteArray}(h:eT a b=ζ)(hx:opT sl x= .v (.c (.d g (.str a))):=by exact rfl)(hy:opT sl y= .v (.c (.d g' (.str b))):=by exact rfl)(hN:nlt d N=true:=by exact rfl):
 NS0 P N ⟨ς d,.binOp .add t x y t',ty,ps,af,gd⟩ sl ob nx d (tS (a++b)) ⟨d,[(x,.v (.c (.d g (.str a)))),(y,.v (.c (.d g' (.str b))))],[],tS (a++b),[]⟩:=sa hx hy hN (by simpa [eT] using h)
theorem cdhT{t by_:Nat}{g2:Bool}{xs:List α}{h:Int}{hi:Operand}[ht:dB P t e sz by_](H:fa xs 0 h=ζ)(henc:∀a,(enc a).length=sz)(hx:opT sl x= .v (.c (.d g (.l (xs.map enc)))))(hh:opT sl hi= .v (.c (.d g2 (.i .i64 h))))(hN:nlt d N=ζ):
 NS0 P N ⟨ς d,.slice t x ξ (ς hi) ξ,ty,ps,af,gd⟩ sl ob nx d (.v (.c (.d g (.l ((xs.take h.toNat).map enc))))) ⟨d,[(x,.v (.c (.d g (.l (xs.map enc))))),(hi,.v (.c (.d g2 (.i .i64 h))))],[],.v (.c (.d g (.l ((xs.take h.toNat).map enc)))),[]⟩:=by
 simp only[fa,decide_eq_true_eq] at H
 have:=cdh (P:=P) (N:=N) (d:=d) (ty:=ty) (ps:=ps) (af:=af) (gd:=gd) (ob:=ob) (nx:=nx) (t:=t) (e:=e) (sz:=sz) (by_:=by_) hx hh hN (B3 henc xs) H.2.1 (by simp_all)
 simp_all
theorem Pn{t by_:Nat}{g2:Bool}{xs:List α}{l:Int}{lo:Operand}[ht:dB P t e sz by_](H:fa xs l xs.length=ζ)(henc:∀a,(enc a).length=sz)(hx:opT sl x= .v (.c (.d g (.l (xs.map enc)))))(hl:opT sl lo= .v (.c (.d g2 (.i .i64 l))))(hN:nlt d N=ζ):
 NS0 P N ⟨ς d,.slice t x (ς lo) ξ ξ,ty,ps,af,gd⟩ sl ob nx d (.v (.c (.d g (.l ((xs.drop l.toNat).map enc))))) ⟨d,[(x,.v (.c (.d g (.l (xs.map enc))))),(lo,.v (.c (.d g2 (.i .i64 l))))],[],.v (.c (.d g (.l ((xs.drop l.toNat).map enc)))),[]⟩:=by
 simp only[fa,decide_eq_true_eq] at H
 have:=cdl (P:=P) (N:=N) (d:=d) (ty:=ty) (ps:=ps) (af:=af) (gd:=gd) (ob:=ob) (nx:=nx) (t:=t) (e:=e) (sz:=sz) (by_:=by_) hx hl hN (B3 henc xs) H.1 (by simp_all)
 simp_all
end
def toV:D->Value
 | .i k n=>.int k n
 | .b b=>.bool b
 | .str s=>.string s
 | .l _=>.slice ξ 0 0
 | .k _ _ _=>.slice ξ 0 0
def T6:D->D->Bool
 | .i _ a,.i _ b=>eqB a b
 | .b a,.b b=>a==b
 | .str a,.str b=>strB a b
 |_,_=>η
def tA:List D->List D->Bool
 |x::xs,y::ys=>T6 x y&&tA xs ys
 |_,_=>ζ
def shB:List Sh->List D->Bool
 |[],[]=>ζ
 | .i k::ss,.i k' _::xs=>decide (k=k')&&shB ss xs
 | .b::ss,.b _::xs=>shB ss xs
 | .str::ss,.str _::xs=>shB ss xs
 |_,_=>η
theorem pB:∀{ss:List Sh} {xs:List D},shB ss xs=ζ->xs.length=ss.length
 |[],[],_=>rfl
 | .i k::ss,.i k' _::xs,h=>by simp[shB] at h;simp[pB h.2]
 | .b::ss,.b _::xs,h=>by simp[shB] at h;simp[pB h]
 | .str::ss,.str _::xs,h=>by simp[shB] at h;simp[pB h]
 |[],_::_,h=>by simp[shB] at h
 | .i _::_,[],h=>by simp[shB] at h
 | .i _::_,.b _::_,h=>by simp[shB] at h
 | .i _::_,.str _::_,h=>by simp[shB] at h
 | .i _::_,.l _::_,h=>by simp[shB] at h
 | .i _::_,.k _ _ _::_,h=>by simp[shB] at h
 | .b::_,[],h=>by simp[shB] at h
 | .b::_,.i _ _::_,h=>by simp[shB] at h
 | .b::_,.str _::_,h=>by simp[shB] at h
 | .b::_,.l _::_,h=>by simp[shB] at h
 | .b::_,.k _ _ _::_,h=>by simp[shB] at h
 | .str::_,[],h=>by simp[shB] at h
 | .str::_,.i _ _::_,h=>by simp[shB] at h
 | .str::_,.b _::_,h=>by simp[shB] at h
 | .str::_,.l _::_,h=>by simp[shB] at h
 | .str::_,.k _ _ _::_,h=>by simp[shB] at h
 | .l _::_,[],h=>by simp[shB] at h
 | .l _::_,_::_,h=>by simp[shB] at h
theorem tW:∀{s1 s2:List Sh} {xs:List D},shB (s1++s2) xs=ζ->shB s1 (xs.take s1.length)=ζ/\shB s2 (xs.drop s1.length)=ζ
 |[],s2,xs,h=>by simpa [shB] using h
 | .i k::s1,s2,.i k' n::xs,h=>by
  simp only[Yv,shB,hV] at h
  obtain⟨h1,h2⟩:=tW h.2
  exact⟨by simp only[Yg,YH,shB,hV];simp_all,by simp_all⟩
 | .b::s1,s2,.b n::xs,h=>by
  simp only[Yv,shB] at h
  obtain⟨h1,h2⟩:=tW h
  exact⟨by simp only[Yg,YH,shB];exact h1,by simp_all⟩
 | .str::s1,s2,.str n::xs,h=>by
  simp only[Yv,shB] at h
  obtain⟨h1,h2⟩:=tW h
  exact⟨by simp only[Yg,YH,shB];exact h1,by simp_all⟩
 | .i _::_,_,[],h=>by simp[shB] at h
 | .i _::_,_,.b _::_,h=>by simp[shB] at h
 | .i _::_,_,.str _::_,h=>by simp[shB] at h
 | .i _::_,_,.l _::_,h=>by simp[shB] at h
 | .i _::_,_,.k _ _ _::_,h=>by simp[shB] at h
 | .b::_,_,[],h=>by simp[shB] at h
 | .b::_,_,.i _ _::_,h=>by simp[shB] at h
 | .b::_,_,.str _::_,h=>by simp[shB] at h
 | .b::_,_,.l _::_,h=>by simp[shB] at h
 | .b::_,_,.k _ _ _::_,h=>by simp[shB] at h
 | .str::_,_,[],h=>by simp[shB] at h
 | .str::_,_,.i _ _::_,h=>by simp[shB] at h
 | .str::_,_,.b _::_,h=>by simp[shB] at h
 | .str::_,_,.l _::_,h=>by simp[shB] at h
 | .str::_,_,.k _ _ _::_,h=>by simp[shB] at h
 | .l _::_,_,[],h=>by simp[shB] at h
 | .l _::_,_,_::_,h=>by simp[shB] at h
theorem BH:∀(n:Nat) (xs ys:List D),xs.length=ys.length->tA xs ys=(tA (xs.take n) (ys.take n)&&tA (xs.drop n) (ys.drop n))
 |0,xs,ys,_=>by simp[tA]
 |n+1,[],[],_=>by simp[tA]
 |n+1,x::xs,y::ys,h=>by
  simp only[YH,Y2,tA]
  rw[BH n xs ys (by simpa using h),Bool.and_assoc]
 |n+1,[],_::_,h=>by simp at h
 |n+1,_::_,[],h=>by simp at h
def rW(xs:List D):Array Value:=(xs.map toV).toArray
def EqS(P:Program)(t:TypeId)(s:Sh):Prop:=∀(d:Nat) (w:World) (x y:D),shB [s] [x]=ζ->shB [s] [y]=ζ->(Op.equalIn (d+1) t (toV x) (toV y)).run P w= .ok (T6 x y) w
def EqA(P:Program)(k:Nat)(t:TypeId)(ss:List Sh):Prop:=∀(d:Nat) (w:World) (xs ys:List D),k<=d->shB ss xs=ζ->shB ss ys=ζ->(Op.equalIn d t (.agg (rW xs)) (.agg (rW ys))).run P w= .ok (tA xs ys) w
def EqF(P:Program)(k:Nat)(o:Nat)(fs:List Field)(ss:List Sh):Prop:=∀(d:Nat) (w:World) (X Y:List D),k<=d->shB ss (X.drop o)=ζ->shB ss (Y.drop o)=ζ->(Op.eqFields d (rW X) (rW Y) fs).run P w= .ok (tA (X.drop o) (Y.drop o)) w
theorem dY{k:IntKind}(h:P.underlying t=ς (.int k)):EqS P t (.i k):=by
 intro d w x y hx hy
 cases x<;>simp[shB] at hx
 cases y<;>simp[shB] at hy
 subst hx;subst hy
 rw[toV,toV,run_equalIn_int w d t _ k _ _ h]
 simp[T6,eqB,KV]
theorem mC{o:Nat}:EqF P k o [] []:=by
 intro d w X Y hd hx hy
 have h1:=pB hx
 have h2:=pB hy
 rw[YY.1 h1,YY.1 h2]
 rfl
theorem SJ{X:List D}{o:Nat}(h:X.drop o=x::r):(rW X)[o]?=ς (toV x):=by
 have:X[o]?=ς x:=by
  have:=YL (xs:=X) (i:=o) (j:=0)
  rw[h] at this
  simpa using this.symm
 simp[rW,this]
theorem gh{o:Nat}{f:Field}{fs:List Field}{s:Sh}(ho:f.offset=o)(hn:f.name≠ "_")(hs:ic P f.type)(he:EqS P f.type s)(h:EqF P (k+1) (o+1) fs ss):EqF P (k+1) o (f::fs) (s::ss):=by
 intro d w X Y hd hx hy
 obtain⟨d,rfl⟩:∃d',d=d'+1:=⟨d-1,by omega⟩
 have l1:=pB hx
 have l2:=pB hy
 cases hX:X.drop o with
 |nil=>simp_all
 |cons x X'=>
  cases hY:Y.drop o with
  |nil=>simp_all
  |cons y Y'=>
   rw[hX] at hx;rw[hY] at hy
   have a1:=tW (s1:=[s]) (s2:=ss) hx
   have a2:=tW (s1:=[s]) (s2:=ss) hy
   simp only[Yg,List.length_nil,Yl,YH,List.take_zero,Y2,YX] at a1 a2
   have e1:X.drop (o+1)=X':=by rw[<-YO,hX];rfl
   have e2:Y.drop (o+1)=Y':=by rw[<-YO,hY];rfl
   have ih:=h (d+1) w X Y hd (by simp_all) (by simp_all)
   simp only[Op.eqFields,hn,ne_eq,not_false_eq_true,if_true,Sem.run_bind,part,hs.h,Result.andThen_ok,ho,SJ hX,SJ hY,Sem.run_pure,Bool.false_eq_true,if_false,he d w x y a1.1 a2.1]
   rw[tA,<-e1,<-e2]
   cases hq:T6 x y
   .simp
   simp_all
theorem Vl{X:List D}{o:Nat}:(rW X).extract o (o+n)=rW ((X.drop o).take n):=by
 apply YP
 simp[rW,List.map_drop,List.map_take,List.extract_eq_take_drop]
theorem PT{k' o:Nat}{f:Field}{fs:List Field}{s1:List Sh}(ho:f.offset=o)(hn:f.name≠ "_")(hs:fU P f.type n)(hl:s1.length=n)(hk:k'<=k)(he:EqA P k' f.type s1)(h:EqF P k (o+n) fs ss):EqF P k o (f::fs) (s1++ss):=by
 intro d w X Y hd hx hy
 have l1:=pB hx
 have l2:=pB hy
 have a1:=tW hx
 have a2:=tW hy
 rw[hl] at a1 a2
 have ih:=h d w X Y hd (by simp_all) (by simp_all)
 obtain⟨i,hi,hin⟩:=hs.n
 simp only[Op.eqFields,hn,ne_eq,not_false_eq_true,if_true,Sem.run_bind,part,hs.h,Result.andThen_ok,ho,eA hi,hin,Vl,Sem.run_pure,he d w _ _ oaa a1.1 a2.1]
 rw[BH n (X.drop o) (Y.drop o) oaa,YO,YO]
 cases hq:tA ((X.drop o).take n) ((Y.drop o).take n)
 .simp
 simp_all
theorem gU{fs:Array Field}(hu:P.underlying t=ς (.struct fs))(hp:P.stoodInHeld t=η)(h:EqF P k 0 fs.toList ss):EqA P (k+1) t ss:=by
 intro d w xs ys hd hx hy
 obtain⟨d,rfl⟩:∃d',d=d'+1:=⟨d-1,by omega⟩
 have hf:P.fieldsOf t=fs:=by simp[Program.fieldsOf,hu]
 rw[run_equalIn_struct w d t _ _ (by simp_all) hp,hf]
 have:=h d w xs ys oaa (by simp_all) (by simp_all)
 simp_all
class wO(P:Program)(t:TypeId)(ss:outParam (List Sh)):Prop where
 h:∃k,k<=10000/\EqA P k t ss
 g:P.eqGuardType P.depth t=η
def Mz:C->Option D
 | .d _ (.i k n)=>ς (.i k n)
 | .d _ (.b b)=>ς (.b b)
 | .d _ (.str s)=>ς (.str s)
 |_=>ξ
def o3:List C->Option (List D)
 |[]=>ς []
 |c::cs=>match Mz c,o3 cs with
  |some x,ς xs=>ς (x::xs)
  |_,_=>ξ
theorem R6{c:C}(h:Mz c=ς x)(hc:cvC E w c u):u=toV x:=by
 cases c with
 |d g y=>cases y<;>simp[Mz] at h<;>subst h<;>simpa [cvC,rdD,toV] using hc
 |_=>simp[Mz] at h
theorem sP{E:Env}{w:World}:∀{cs:List C} {xs:List D} {us:Lae},o3 cs=ς xs->CV E w cs us->us=xs.map toV
 |[],xs,[],h,_=>by simp[o3] at h;subst h;rfl
 |[],_,_::_,_,hc=>hc.elim
 |c::cs,xs,[],h,hc=>hc.elim
 |c::cs,xs,u::us,h,hc=>by
  simp only[o3] at h
  split at h
  .rename_i x xs' h1 h2
   simp at h;subst h
   rw[Yq,R6 h1 hc.1,sP h2 hc.2]
  cases h
section
variable{P:Program}{N:Nat}{d:Tmp}{ty:TypeId}{ps:String}{af:Array Edge}{gd:Option (Nat×Bool)}{x y z:Operand}{sl:Lab}{ob:Laa}{nx:Nat}
theorem Ml[h:wO P t ss]{as bs:List D}(h1:shB ss as=ζ)(h2:shB ss bs=ζ)(w:World)(o:BinOp)(ho:o= .eql\/o= .neq)(x y:Operand):
 ((do eqGuard o t x y (.agg (rW as)) (.agg (rW bs));binOp o t (.agg (rW as)) (.agg (rW bs))):Sem Value).run P w= .ok (.bool (if o= .eql then tA as bs else !tA as bs)) w:=by
 obtain⟨k,hk,he⟩:=h.h
 have:=he 10000 w as bs hk h1 h2
 rcases ho with rfl|rfl
 .simp[Sem.run_bind,run_eqGuard_agg w _ t x y _ _ h.g,run_eql_struct,this]
 simp[Sem.run_bind,run_eqGuard_agg w _ t x y _ _ h.g,run_neq_struct,this]
theorem n_seq[h:wO P t ss]{ds:List C}{as bs:List D}(ha:o3 cs=ς as)(hb:o3 ds=ς bs)(h1:shB ss as=ζ)(h2:shB ss bs=ζ):
 AWN P ⟨ς d,.binOp .eql t x y t',ty,ps,af,gd⟩ [(x,.v (.agg cs)),(y,.v (.agg ds))] [] (tB (tA as bs)) []:=
 cd λE ac w hn _=>by
  obtain⟨a1,hu1,hc1⟩:=hn x _ (.head _)
  obtain⟨a2,hu2,hc2⟩:=hn y _ (.tail _ (.head _))
  have e1:a1=rW as:=by apply YP;simpa [rW] using sP ha hc1
  have e2:a2=rW bs:=by apply YP;simpa [rW] using sP hb hc2
  subst e1;subst e2
  refine⟨_,?_,rfl⟩
  have:=Ml (P:=P) (t:=t) h1 h2 w .eql (.inl rfl) x y
  simp only[Sem.run_bind,if_true] at this
  simp only[execOp,hu1,hu2,Sem.run_bind]
  simp_all
theorem n_sne[h:wO P t ss]{ds:List C}{as bs:List D}(ha:o3 cs=ς as)(hb:o3 ds=ς bs)(h1:shB ss as=ζ)(h2:shB ss bs=ζ):
 AWN P ⟨ς d,.binOp .neq t x y t',ty,ps,af,gd⟩ [(x,.v (.agg cs)),(y,.v (.agg ds))] [] (tB (!tA as bs)) []:=
 cd λE ac w hn _=>by
  obtain⟨a1,hu1,hc1⟩:=hn x _ (.head _)
  obtain⟨a2,hu2,hc2⟩:=hn y _ (.tail _ (.head _))
  have e1:a1=rW as:=by apply YP;simpa [rW] using sP ha hc1
  have e2:a2=rW bs:=by apply YP;simpa [rW] using sP hb hc2
  subst e1;subst e2
  refine⟨_,?_,rfl⟩
  have:=Ml (P:=P) (t:=t) h1 h2 w .neq (.inr rfl) x y
  simp only[Sem.run_bind,reduceCtorEq,if_false] at this
  simp only[execOp,hu1,hu2,Sem.run_bind]
  simp_all
theorem qe{ds:List C}{as bs:List D}[wO P t ss](hx:opT sl x= .v (.agg cs))(hy:opT sl y= .v (.agg ds))(hN:nlt d N=ζ)(ha:o3 cs=ς as)(hb:o3 ds=ς bs)(h1:shB ss as=ζ)(h2:shB ss bs=ζ):
 NS0 P N ⟨ς d,.binOp .eql t x y t',ty,ps,af,gd⟩ sl ob nx d (tB (tA as bs)) ⟨d,[(x,.v (.agg cs)),(y,.v (.agg ds))],[],tB (tA as bs),[]⟩:=dh (st:=⟨sl,ob,nx⟩) (n_seq ha hb h1 h2) rfl hN ⟨hx,hy,θ⟩ trivial rfl
theorem qn{ds:List C}{as bs:List D}[wO P t ss](hx:opT sl x= .v (.agg cs))(hy:opT sl y= .v (.agg ds))(hN:nlt d N=ζ)(ha:o3 cs=ς as)(hb:o3 ds=ς bs)(h1:shB ss as=ζ)(h2:shB ss bs=ζ):
 NS0 P N ⟨ς d,.binOp .neq t x y t',ty,ps,af,gd⟩ sl ob nx d (tB (!tA as bs)) ⟨d,[(x,.v (.agg cs)),(y,.v (.agg ds))],[],tB (!tA as bs),[]⟩:=dh (st:=⟨sl,ob,nx⟩) (n_sne ha hb h1 h2) rfl hN ⟨hx,hy,θ⟩ trivial rfl
end
end Go.AM
