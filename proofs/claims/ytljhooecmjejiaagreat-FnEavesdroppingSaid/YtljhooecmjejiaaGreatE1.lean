/- A part. -/
import Derived.Orders
import Derived.Below
import Derived.KernelRfl
import Derived.Maps.AppendAt
import Derived.Laws.MakeOwn
import Derived.Tactics
import Derived.Laws.Strings
import Derived.Great.FillDense
set_option linter.unusedVariables false
set_option linter.unusedSimpArgs false
open List renaming getElem?_eq_some_iff→Tm,getElem?_append_right→Tz,getElem?_append_left→Tu,mem_of_getElem?→Tn,getElem?_eq_getElem→v0,getElem?_drop→TJ,take_succ_cons→TI,getElem?_take→TB,append_assoc→TL,mem_cons→Tq,eq_of_mem_replicate→TS,all_cons→TF,cons_append→TD,replicate→TE
open Nat renaming eq_of_beq_eq_true→To,add_mul→TG,mul_le_mul_right→TM,beq→d0,zero_add→Tv,add_mul_mod_self_right→TR,le_refl→Tt,add_assoc→TN,add_comm→TQ,mod_eq_of_lt→TT,add_zero→TO,ble→TC
open Bool renaming and_eq_true→hV
open Array renaming getElem?_eq_getElem→TA,getD→TP
namespace Go.AM
def rC:List Nat:=[]
def EU (_:World):Prop:=True
theorem OA (w w':World) (_:∀b∈rC,w'.heap[b]?=w.heap[b]?) (_:EU w):EU w':=trivial
theorem Kz (w:World) (_:EU w):∀b∈rC,b<w.heap.size:=fun _ h=>by cases h
end Go.AM
namespace Go.AM
open Go.RowKit
def nlt (a b:Nat):Bool:=TC (a+1) b
def TabsIn (w:World):Prop:=EU w
inductive D where
 |i (k:IntKind) (n:Int)
 |b (x:Bool)
 |str (s:ByteArray)
 |l (xs:List (List D))
 |k (A:Option Addr) (n c:Nat)
 deriving Inhabited
mutual
def rdD (w:World) (F:Nat→Prop):D→Value→Prop
 | .i k n,u=>u= .int k n
 | .b x,u=>u= .bool x
 | .str s,u=>u= .string s
 | .l xs,u=>∃A c,u= .slice A xs.length c∧xs.length≤c∧(xs=[]∨∃b off,A=some ⟨b,off,none⟩∧F b∧rdLL w F xs b off)
 | .k A n c,u=>u= .slice A n c
def rdLL (w:World) (F:Nat→Prop):List (List D)→Nat→Nat→Prop
 |[],_,_=>True
 |e::es,b,k=>rdL w F e b k∧rdLL w F es b (k+e.length)
def rdL (w:World) (F:Nat→Prop):List D→Nat→Nat→Prop
 |[],_,_=>True
 |d::ds,b,k=>(∃u,w.cell? ⟨b,k,none⟩=some u∧rdD w F d u)∧rdL w F ds b (k+1)
end
theorem qR {w w':World} {b k:Nat} (h:w'.heap[b]?=w.heap[b]?):w'.cell? ⟨b,k,none⟩=w.cell? ⟨b,k,none⟩:=by
 simp[World.cell?,h]
mutual
theorem cj {w w':World} {F F':Nat→Prop} (hw:∀b,F b→w'.heap[b]?=w.heap[b]?) (hF:∀b,F b→F' b):
 ∀(d:D) (u:Value),rdD w F d u→rdD w' F' d u
 | .i _ _,_,h=>by simpa [rdD] using h
 | .b _,_,h=>by simpa [rdD] using h
 | .str _,_,h=>by simpa [rdD] using h
 | .l xs,u,h=>by
  rw[rdD] at h ⊢
  obtain⟨A,c,hu,hlc,h⟩:=h
  refine⟨A,c,hu,hlc,?_⟩
  rcases h with h|⟨b,off,hA,hb,h⟩
  ·exact .inl h
  ·exact .inr ⟨b,off,hA,hF b hb,rdLL_mono hw hF xs b off hb h⟩
 | .k _ _ _,_,h=>by simpa [rdD] using h
theorem rdLL_mono {w w':World} {F F':Nat→Prop} (hw:∀b,F b→w'.heap[b]?=w.heap[b]?) (hF:∀b,F b→F' b):
 ∀(xs:List (List D)) (b k:Nat),F b→rdLL w F xs b k→rdLL w' F' xs b k
 |[],_,_,_,_=>by simp[rdLL]
 |e::es,b,k,hb,h=>by
  rw[rdLL] at h ⊢
  exact⟨rdL_mono hw hF e b k hb h.1,rdLL_mono hw hF es b _ hb h.2⟩
theorem rdL_mono {w w':World} {F F':Nat→Prop} (hw:∀b,F b→w'.heap[b]?=w.heap[b]?) (hF:∀b,F b→F' b):
 ∀(xs:List D) (b k:Nat),F b→rdL w F xs b k→rdL w' F' xs b k
 |[],_,_,_,_=>by simp[rdL]
 |d::ds,b,k,hb,h=>by
  rw[rdL] at h ⊢
  obtain⟨⟨u,hc,hu⟩,h⟩:=h
  exact⟨⟨u,(qR (hw b hb)).trans hc,cj hw hF d u hu⟩,rdL_mono hw hF ds b _ hb h⟩
end
theorem Df {w w':World} {F F':Nat→Prop} (hw:∀b,F b→w'.heap[b]?=w.heap[b]?) (hF:∀b,F b→F' b) {b:Nat} (hb:w'.heap[b]?=w.heap[b]?):
 ∀(xs:List D) (k:Nat),rdL w F xs b k→rdL w' F' xs b k
 |[],_,_=>by simp[rdL]
 |d::ds,k,h=>by
  rw[rdL] at h ⊢
  obtain⟨⟨u,hc,hu⟩,h⟩:=h
  exact⟨⟨u,(qR hb).trans hc,cj hw hF d u hu⟩,Df hw hF hb ds _ h⟩
theorem cm {w w':World} {F F':Nat→Prop} (hw:∀b,F b→w'.heap[b]?=w.heap[b]?) (hF:∀b,F b→F' b) {b:Nat} (hb:w'.heap[b]?=w.heap[b]?):
 ∀(xs:List (List D)) (k:Nat),rdLL w F xs b k→rdLL w' F' xs b k
 |[],_,_=>by simp[rdLL]
 |e::es,k,h=>by
  rw[rdLL] at h ⊢
  exact⟨Df hw hF hb e k h.1,cm hw hF hb es _ h.2⟩
theorem kF {w:World} {F:Nat→Prop}:∀{xs:List D} {b k:Nat} {j:Nat} {d:D},rdL w F xs b k→xs[j]?=some d→∃u,w.cell? ⟨b,k+j,none⟩=some u∧rdD w F d u
 |[],_,_,_,_,_,h=>by simp at h
 |_::_,b,k,0,d,h,hj=>by
  rw[rdL] at h
  simp at hj
  subst hj
  exact h.1
 |_::ds,b,k,j+1,d,h,hj=>by
  rw[rdL] at h
  have:=kF (j:=j) h.2 (by simpa using hj)
  rwa [show k+1+j=k+(j+1) from by omega] at this
theorem lJ {w:World} {F:Nat→Prop}:∀{xs:List D} {b k:Nat},(∀j d,xs[j]?=some d→∃u,w.cell? ⟨b,k+j,none⟩=some u∧rdD w F d u)→rdL w F xs b k
 |[],_,_,_=>by simp[rdL]
 |d::ds,b,k,h=>by
  rw[rdL]
  refine⟨h 0 d rfl,lJ fun j d' hj=>?_⟩
  have:=h (j+1) d' (by simpa using hj)
  rwa [show k+(j+1)=k+1+j from by omega] at this
theorem nr {w:World} {F:Nat→Prop} {sz:Nat}:∀{xs:List (List D)} {b k:Nat} {i:Nat} {e:List D},rdLL w F xs b k→(∀e∈xs,e.length=sz)→xs[i]?=some e→rdL w F e b (k+i*sz)
 |[],_,_,_,_,_,_,h=>by simp at h
 |_::_,b,k,0,e,h,_,hi=>by
  rw[rdLL] at h
  simp at hi
  subst hi
  simpa using h.1
 |e0::es,b,k,i+1,e,h,hs,hi=>by
  rw[rdLL] at h
  have h0:e0.length=sz:=hs e0 (by simp)
  have:=nr (i:=i) h.2 (fun x hx=>hs x (by simp[hx])) (by simpa using hi)
  rw[h0] at this
  rwa [show k+sz+i*sz=k+(i+1)*sz from by rw[TG];omega] at this
theorem rp {w:World} {F:Nat→Prop} {sz:Nat}:∀{xs:List (List D)} {b k:Nat},(∀e∈xs,e.length=sz)→(∀i e,xs[i]?=some e→rdL w F e b (k+i*sz))→rdLL w F xs b k
 |[],_,_,_,_=>by simp[rdLL]
 |e0::es,b,k,hs,h=>by
  rw[rdLL]
  have h0:e0.length=sz:=hs e0 (by simp)
  refine⟨by simpa using h 0 e0 rfl,rp (fun x hx=>hs x (by simp[hx])) fun i e hi=>?_⟩
  have:=h (i+1) e (by simpa using hi)
  rw[h0]
  rwa [show k+(i+1)*sz=k+sz+i*sz from by rw[TG];omega] at this
theorem yf {w:World} {F:Nat→Prop} {sz:Nat} {xs:List (List D)} {b k:Nat} (h:rdLL w F xs b k) (hs:∀e∈xs,e.length=sz) (m:Nat):rdLL w F (xs.drop m) b (k+m*sz):=
 rp (fun e he=>hs e (List.mem_of_mem_drop he)) fun i e hi=>by
  rw[TJ] at hi
  have:=nr h hs hi
  rwa [show k+(m+i)*sz=k+m*sz+i*sz from by rw[TG];omega] at this
theorem nR {w:World} {F:Nat→Prop}:∀{xs:List (List D)} {b k:Nat} (m:Nat),rdLL w F xs b k→rdLL w F (xs.take m) b k
 |[],_,_,_,_=>by simp[rdLL]
 |_::_,_,_,0,_=>by simp[rdLL]
 |e::es,b,k,m+1,h=>by
  rw[rdLL] at h
  rw[TI,rdLL]
  exact⟨h.1,nR m h.2⟩
theorem KC {sz:Nat}:∀{xs:List (List D)},(∀e∈xs,e.length=sz)→(xs.map List.length).sum=xs.length*sz
 |[],_=>by simp
 |e::es,h=>by
  simp[h e (by simp),KC (xs:=es) fun x hx=>h x (by simp[hx]),TG]
  omega
theorem ro {w:World} {F:Nat→Prop} {d:D} {u:Value} (h:rdD w F d u):u.oneCell'=true:=by
 cases d<;>simp only[rdD] at h
 case l xs=>obtain⟨A,c,rfl,_⟩:=h;rfl
 all_goals subst h;rfl
theorem ye {w:World} {F:Nat→Prop} {d:D} {u:Value} (h:rdD w F d u):u.cells= #[u]:=by
 cases d<;>simp only[rdD] at h
 case l xs=>obtain⟨A,c,rfl,_⟩:=h;rfl
 all_goals subst h;rfl
def IO (u u':Value):Prop:=u'=u∨(∃k n m,u= .int k n∧u'= .int k m)∨(∃x y,u= .bool x∧u'= .bool y)∨(∃s t,u= .string s∧u'= .string t)
theorem IO.trans {u v x:Value} (h:IO u v) (h':IO v x):IO u x:=by
 rcases h with rfl|⟨k,n,m,rfl,rfl⟩|⟨a,b,rfl,rfl⟩|⟨s,t,rfl,rfl⟩
 ·exact h'
 ·rcases h' with rfl|⟨k',n',m',h1,rfl⟩|⟨a,b,h1,rfl⟩|⟨s,t,h1,rfl⟩
  ·exact .inr (.inl ⟨_,_,_,rfl,rfl⟩)
  ·cases h1;exact .inr (.inl ⟨_,_,_,rfl,rfl⟩)
  ·cases h1
  ·cases h1
 ·rcases h' with rfl|⟨k',n',m',h1,rfl⟩|⟨a,b,h1,rfl⟩|⟨s,t,h1,rfl⟩
  ·exact .inr (.inr (.inl ⟨_,_,rfl,rfl⟩))
  ·cases h1
  ·cases h1;exact .inr (.inr (.inl ⟨_,_,rfl,rfl⟩))
  ·cases h1
 ·rcases h' with rfl|⟨k',n',m',h1,rfl⟩|⟨a,b,h1,rfl⟩|⟨s,t,h1,rfl⟩
  ·exact .inr (.inr (.inr ⟨_,_,rfl,rfl⟩))
  ·cases h1
  ·cases h1
  ·cases h1;exact .inr (.inr (.inr ⟨_,_,rfl,rfl⟩))
def nW (w w':World) (b:Nat):Prop:=∀k u,w.cell? ⟨b,k,none⟩=some u→∃u',w'.cell? ⟨b,k,none⟩=some u'∧IO u u'
theorem nW.refl (w:World) (b:Nat):nW w w b:=fun _ u h=>⟨u,h,.inl rfl⟩
theorem nW.of_eq {w w':World} {b:Nat} (h:w'.heap[b]?=w.heap[b]?):nW w w' b:=fun _ u hc=>⟨u,(qR h).trans hc,.inl rfl⟩
theorem nW.trans {w w' w'':World} {b:Nat} (h:nW w w' b) (h':nW w' w'' b):nW w w'' b:=fun k u hc=>by
 obtain⟨u',h1,h2⟩:=h k u hc
 obtain⟨u'',h3,h4⟩:=h' k u' h1
 exact⟨u'',h3,h2.trans h4⟩
mutual
def rsD (w:World) (F:Nat→Prop):D→Value→Prop
 | .i k _,u=>∃m,u= .int k m
 | .b _,u=>∃x,u= .bool x
 | .str _,u=>∃s,u= .string s
 | .l xs,u=>∃A c,u= .slice A xs.length c∧xs.length≤c∧(xs=[]∨∃b off,A=some ⟨b,off,none⟩∧F b∧rsLL w F xs b off)
 | .k A n c,u=>u= .slice A n c
def rsLL (w:World) (F:Nat→Prop):List (List D)→Nat→Nat→Prop
 |[],_,_=>True
 |e::es,b,k=>rsL w F e b k∧rsLL w F es b (k+e.length)
def rsL (w:World) (F:Nat→Prop):List D→Nat→Nat→Prop
 |[],_,_=>True
 |d::ds,b,k=>(∃u,w.cell? ⟨b,k,none⟩=some u∧rsD w F d u)∧rsL w F ds b (k+1)
end
theorem QC {w:World} {F:Nat→Prop} {d:D} {u u':Value} (h:rsD w F d u) (hs:IO u u'):rsD w F d u':=by
 rcases hs with rfl|⟨k,n,m,rfl,rfl⟩|⟨a,b,rfl,rfl⟩|⟨s,t,rfl,rfl⟩
 ·exact h
 all_goals cases d<;>simp only[rsD] at h ⊢
 all_goals first
  |(obtain⟨A,c,h,_⟩:=h;cases h;done)
  |(obtain⟨m',h⟩:=h;cases h;done)
  |(obtain⟨m',h⟩:=h;cases h;exact⟨_,rfl⟩)
  |(cases h;done)
mutual
theorem qx {w w':World} {F F':Nat→Prop} (hw:∀b,F b→nW w w' b) (hF:∀b,F b→F' b):
 ∀(d:D) (u:Value),rsD w F d u→rsD w' F' d u
 | .i _ _,_,h=>by simpa [rsD] using h
 | .b _,_,h=>by simpa [rsD] using h
 | .str _,_,h=>by simpa [rsD] using h
 | .l xs,u,h=>by
  rw[rsD] at h ⊢
  obtain⟨A,c,hu,hlc,h⟩:=h
  refine⟨A,c,hu,hlc,?_⟩
  rcases h with h|⟨b,off,hA,hb,h⟩
  ·exact .inl h
  ·exact .inr ⟨b,off,hA,hF b hb,rsLL_mono hw hF xs b off hb h⟩
 | .k _ _ _,_,h=>by simpa [rsD] using h
theorem rsLL_mono {w w':World} {F F':Nat→Prop} (hw:∀b,F b→nW w w' b) (hF:∀b,F b→F' b):
 ∀(xs:List (List D)) (b k:Nat),F b→rsLL w F xs b k→rsLL w' F' xs b k
 |[],_,_,_,_=>by simp[rsLL]
 |e::es,b,k,hb,h=>by
  rw[rsLL] at h ⊢
  exact⟨rsL_mono hw hF e b k hb h.1,rsLL_mono hw hF es b _ hb h.2⟩
theorem rsL_mono {w w':World} {F F':Nat→Prop} (hw:∀b,F b→nW w w' b) (hF:∀b,F b→F' b):
 ∀(xs:List D) (b k:Nat),F b→rsL w F xs b k→rsL w' F' xs b k
 |[],_,_,_,_=>by simp[rsL]
 |d::ds,b,k,hb,h=>by
  rw[rsL] at h ⊢
  obtain⟨⟨u,hc,hu⟩,h⟩:=h
  obtain⟨u',hc',hs⟩:=hw b hb k u hc
  exact⟨⟨u',hc',qx hw hF d u' (QC hu hs)⟩,rsL_mono hw hF ds b _ hb h⟩
end
mutual
theorem SB {w:World} {F:Nat→Prop}:∀(d:D) (u:Value),rdD w F d u→rsD w F d u
 | .i _ n,_,h=>by rw[rdD] at h;rw[rsD];exact⟨n,h⟩
 | .b x,_,h=>by rw[rdD] at h;rw[rsD];exact⟨x,h⟩
 | .str s,_,h=>by rw[rdD] at h;rw[rsD];exact⟨s,h⟩
 | .l xs,u,h=>by
  rw[rdD] at h;rw[rsD]
  obtain⟨A,c,hu,hlc,h⟩:=h
  refine⟨A,c,hu,hlc,?_⟩
  rcases h with h|⟨b,off,hA,hb,h⟩
  ·exact .inl h
  ·exact .inr ⟨b,off,hA,hb,rsLL_of xs b off h⟩
 | .k _ _ _,_,h=>by rw[rdD] at h;rw[rsD];exact h
theorem rsLL_of {w:World} {F:Nat→Prop}:∀(xs:List (List D)) (b k:Nat),rdLL w F xs b k→rsLL w F xs b k
 |[],_,_,_=>by simp[rsLL]
 |e::es,b,k,h=>by
  rw[rdLL] at h;rw[rsLL]
  exact⟨rsL_of e b k h.1,rsLL_of es b _ h.2⟩
theorem rsL_of {w:World} {F:Nat→Prop}:∀(xs:List D) (b k:Nat),rdL w F xs b k→rsL w F xs b k
 |[],_,_,_=>by simp[rsL]
 |d::ds,b,k,h=>by
  rw[rdL] at h;rw[rsL]
  obtain⟨⟨u,hc,hu⟩,h⟩:=h
  exact⟨⟨u,hc,SB d u hu⟩,rsL_of ds b _ h⟩
end
theorem IE {w:World} {F:Nat→Prop}:∀{xs:List D} {b k:Nat} {j:Nat} {d:D},rsL w F xs b k→xs[j]?=some d→∃u,w.cell? ⟨b,k+j,none⟩=some u∧rsD w F d u
 |[],_,_,_,_,_,h=>by simp at h
 |_::_,b,k,0,d,h,hj=>by
  rw[rsL] at h
  simp at hj
  subst hj
  exact h.1
 |_::ds,b,k,j+1,d,h,hj=>by
  rw[rsL] at h
  have:=IE (j:=j) h.2 (by simpa using hj)
  rwa [show k+1+j=k+(j+1) from by omega] at this
theorem IC {w:World} {F:Nat→Prop} {d:D} {u:Value} (h:rsD w F d u):u.oneCell'=true∧u.cells= #[u]:=by
 cases d<;>simp only[rsD] at h
 case l xs=>obtain⟨A,c,rfl,_⟩:=h;exact⟨rfl,rfl⟩
 all_goals obtain⟨_,rfl⟩:=h;exact⟨rfl,rfl⟩
end Go.AM
namespace Go.AM
open Go.RowKit
inductive C where
 |d (g:Bool) (x:D)
 |w (o n:Nat)
 |s (o sz off len:Nat)
 |p (o k:Nat)
 |e (o sz i j:Nat)
 |q (g:Bool) (x:List D) (j:Nat)
 |fn (f:FuncId)
 |nil
 |any
 |r (l:Nat) (x:D)
 |z (x:D)
 |zq (x:List D) (j:Nat)
 |wn (o n:Nat)
inductive V where
 |c (x:C)
 |agg (cs:List C)
inductive T where
 |v (x:V)
 |tup (ts:List V)
 |any
structure Hid where
 nl:Prop
 S:Nat→Nat→(Nat→Prop)→World→Prop
 st:∀(b c:Nat) (R R':Nat→Prop) (w w':World),S b c R w→(∀k,R k→R' k)→w'.heap[b]?=w.heap[b]?→(∀k,R k→w'.heap[k]?=w.heap[k]?)→S b c R' w'
inductive Ob where
 |var (ty:TypeId) (cs:List C)
 |row (ty:TypeId) (sz:Nat) (els:List (List D)) (g m:Bool)
 |rown (ty:TypeId) (sz:Nat) (els:List (List D)) (g:Bool)
 |abs (l:Nat) (h:Hid)
abbrev tI (n:Int):T:=.v (.c (.d false (.i .i64 n)))
abbrev tB (b:Bool):T:=.v (.c (.d false (.b b)))
abbrev tS (s:ByteArray):T:=.v (.c (.d false (.str s)))
structure Env where
 r:Nat→Option (Nat×Nat)
 F:Nat→Prop
 G:Nat→Prop
 T:Nat→Nat→Prop:=fun _ _=>False
 Z:Nat→Prop:=fun _=>False
 n:Nat→Prop:=fun _=>False
def Env.H (E:Env) (g:Bool):Nat→Prop:=if g then E.G else E.F
def cvC (E:Env) (w:World):C→Value→Prop
 | .d g x,u=>rdD w (E.H g) x u
 | .w o n,u=>∃b c,E.r o=some (b,c)∧u= .slice (some ⟨b,0,none⟩) n c
 | .s o sz off len,u=>∃A c b k,E.r o=some (b,k)∧u= .slice A len c∧len≤c∧(len=0∨A=some ⟨b,off*sz,none⟩)
 | .p o k,u=>∃b c,E.r o=some (b,c)∧u= .pointer (some ⟨b,k,none⟩)
 | .e o sz i j,u=>∃b c,E.r o=some (b,c)∧u= .pointer (some ⟨b,i*sz+j,none⟩)
 | .q g x j,u=>∃b k,u= .pointer (some ⟨b,k+j,none⟩)∧E.H g b∧rdL w (E.H g) x b k
 | .fn f,u=>u= .func (.func f) #[] #[]
 | .nil,u=>u= .slice none 0 0
 | .any,_=>True
 | .r l x,u=>rdD w (E.T l) x u
 | .z x,u=>rsD w E.Z x u
 | .zq x j,u=>∃b k,u= .pointer (some ⟨b,k+j,none⟩)∧E.Z b∧rsL w E.Z x b k
 | .wn o n,u=>(E.n o∧n=0∧u= .slice none 0 0)∨(¬E.n o∧∃b c,E.r o=some (b,c)∧u= .slice (some ⟨b,0,none⟩) n c)
def CV (E:Env) (w:World):List C→List Value→Prop
 |[],[]=>True
 |c::cs,u::us=>cvC E w c u∧CV E w cs us
 |_,_=>False
def cvV (E:Env) (w:World):V→Value→Prop
 | .c x,u=>cvC E w x u
 | .agg cs,u=>∃arr,u= .agg arr∧CV E w cs arr.toList
def VV (E:Env) (w:World):List V→List Value→Prop
 |[],[]=>True
 |c::cs,u::us=>cvV E w c u∧VV E w cs us
 |_,_=>False
def cvT (E:Env) (w:World):T→Value→Prop
 | .v x,u=>cvV E w x u
 | .tup ts,u=>∃arr,u= .tuple arr∧VV E w ts arr.toList
 | .any,_=>True
def cy (E:Env) (w:World) (o:Nat):Ob→Prop
 | .var ty cs=>∃b c arr,E.r o=some (b,c)∧w.heap[b]?=some (.cells arr ty (0,0))∧CV E w cs arr.toList∧¬E.F b
 | .row ty sz els g m=>∃b c arr,E.r o=some (b,c)∧w.heap[b]?=some (.cells arr ty (0,0))∧arr.size=c*sz∧els.length≤c∧c≤maxLen∧
  (∀e∈els,e.length=sz)∧rdLL w (E.H g) els b 0∧(m=true→¬E.F b)∧(m=false→E.F b∧(g=true→E.G b))
 | .rown ty sz els g=>(E.n o∧els=[])∨(¬E.n o∧∃b c arr,E.r o=some (b,c)∧w.heap[b]?=some (.cells arr ty (0,0))∧arr.size=c*sz∧els.length≤c∧c≤maxLen∧
  (∀e∈els,e.length=sz)∧rdLL w (E.H g) els b 0∧¬E.F b)
 | .abs l h=>(E.n o∧h.nl)∨(¬E.n o∧∃b c,E.r o=some (b,c)∧h.S b c (E.T l) w∧¬E.F b)
structure Cx where
 w0:World
 W:Nat→Prop
 r0:Nat→Option (Nat×Nat):=fun _=>none
 F0:Nat→Prop:=fun _=>True
 Z:Nat→Prop:=fun _=>False
 gw:TabsIn w0∧∀b∈rC,¬W b
 G0:Nat→Prop:=fun _=>False
def rsv (o:Nat):Bool:=TC 190 o&&nlt o 210
def rsp (o:Nat):Bool:=TC 200 o&&nlt o 210
theorem EJ {o:Nat} (h:rsp o=true):rsv o=true:=by
 simp only[rsp,rsv,nlt,hV,Nat.ble_eq] at h ⊢
 omega
theorem nu {o:Nat} (h:rsv o=false):rsp o=false:=by
 cases k:rsp o with
 |false=>rfl
 |true=>rw[EJ k] at h;cases h
def gA (w:World) (b:Nat):Prop:=∃arr ty fz,w.heap[b]?=some (.cells arr ty fz)∧(fz=(0,0)∨arr.size≤fz.1)
theorem gA.mk {w:World} {b:Nat} {arr:Array Value} {ty:TypeId} (h:w.heap[b]?=some (.cells arr ty (0,0))):gA w b:=⟨arr,ty,_,h,.inl rfl⟩
structure zf (cx:Cx) (E:Env) (w:World):Prop where
 tb:∀l b,E.T l b→(b<w.heap.size∧cx.w0.heap.size≤b)∧¬E.F b∧(∀o c,E.r o≠some (b,c))∧gA w b
 tt:∀l l' b,E.T l b→E.T l' b→l=l'
 zc:∀b,cx.Z b→(b<cx.w0.heap.size∧b<w.heap.size∧cx.W b)∧¬E.F b∧(∀o c,E.r o≠some (b,c))∧gA w b
 zs:∀b,cx.Z b→nW cx.w0 w b
 ze:∀b,E.Z b→cx.Z b
theorem zf.zb {cx:Cx} {E:Env} {w:World} (s:zf cx E w) (b:Nat) (h:E.Z b):(b<cx.w0.heap.size∧b<w.heap.size∧cx.W b)∧¬E.F b∧(∀o c,E.r o≠some (b,c))∧gA w b:=s.zc b (s.ze b h)
structure cQ (cx:Cx) (E:Env) (w:World):Prop where
 fb:∀b,E.F b→b<w.heap.size
 gf:∀b,E.G b→E.F b
 gn:∀b,E.G b→cx.w0.heap.size≤b∨cx.G0 b
 rb:∀o b c,E.r o=some (b,c)→b<w.heap.size∧(cx.w0.heap.size≤b∨(cx.W b∧rsv o=true))
 inj:∀o o' b c c',E.r o=some (b,c)→E.r o'=some (b,c')→o=o'
 os:w.os=cx.w0.os
 tape:w.tape=cx.w0.tape
 output:w.output=cx.w0.output
 size:cx.w0.heap.size≤w.heap.size
 block:∀b,b<cx.w0.heap.size→¬cx.W b→w.heap[b]?=cx.w0.heap[b]?
 pin:∀o x,rsp o=true→E.r o=some x→cx.r0 o=some x
 ff:∀b,E.F b→cx.F0 b∨cx.w0.heap.size≤b
 gc:∀b,E.F b→cx.w0.heap.size≤b→gA w b
 sf:zf cx E w
theorem P6 {w:World} {b:Nat} {o:Obj} (h:w.heap[b]?=some o):b<w.heap.size:=by
 rcases Nat.lt_or_ge b w.heap.size with k|k
 ·exact k
 ·rw[Array.getElem?_eq_none k] at h;cases h
theorem cQ.tabs {cx:Cx} {E:Env} {w:World} (ok:cQ cx E w):TabsIn w:=
 OA cx.w0 w (fun b hb=>ok.block b (Kz _ cx.gw.1 b hb) (cx.gw.2 b hb)) cx.gw.1
theorem cQ.ntab {cx:Cx} {E:Env} {w:World} (ok:cQ cx E w) {o b c:Nat} (h:E.r o=some (b,c)):∀k∈rC,k≠b:=fun k hk e=>by
 have:=Kz _ cx.gw.1 k hk
 subst e
 rcases(ok.rb o _ c h).2 with m|m
 ·omega
 ·exact cx.gw.2 _ hk m.1
structure Ext (E:Env) (w:World) (E':Env) (w':World):Prop where
 r:∀o x,E.r o=some x→E'.r o=some x
 F:∀b,E.F b→E'.F b
 G:∀b,E.G b→E'.G b
 F':∀b,E'.F b→E.F b∨w.heap.size≤b
 heap:∀b,b<w.heap.size→w'.heap[b]?=w.heap[b]?
 T:E'.T=E.T
 Z:E'.Z=E.Z
 n:E'.n=E.n
theorem Ext.refl (E:Env) (w:World):Ext E w E w:=⟨fun _ _ h=>h,fun _ h=>h,fun _ h=>h,fun _ h=>.inl h,fun _ _=>rfl,rfl,rfl,rfl⟩
theorem gA.of_eq {w w':World} {b:Nat} (h:w'.heap[b]?=w.heap[b]?) (p:gA w b):gA w' b:=by
 obtain⟨arr,ty,fz,hp,hf⟩:=p
 exact⟨arr,ty,fz,h.trans hp,hf⟩
theorem zf.grow {cx:Cx} {E E':Env} {w w':World} (s:zf cx E w) (hT:E'.T=E.T) (hZ:E'.Z=E.Z) (hF:∀b,E'.F b→E.F b∨w.heap.size≤b) (hr:∀o b c,E'.r o=some (b,c)→(∃o' c',E.r o'=some (b,c'))∨w.heap.size≤b)
 (hs:w.heap.size≤w'.heap.size) (hh:∀b,b<w.heap.size→w'.heap[b]?=w.heap[b]?):zf cx E' w':=by
 refine⟨fun l b h=>?_,fun l l' b h h'=>?_,fun b h=>?_,fun b h=>?_,fun b h=>s.ze b (hZ▸h)⟩
 ·rw[hT] at h
  obtain⟨⟨h1,h2⟩,h3,h4,h5⟩:=s.tb l b h
  refine⟨⟨by omega,h2⟩,fun hf=>?_,fun o c ho=>?_,h5.of_eq (hh b h1)⟩
  ·rcases hF b hf with k|k
   ·exact h3 k
   ·omega
  ·rcases hr o b c ho with⟨o',c',k⟩|k
   ·exact h4 o' c' k
   ·omega
 ·rw[hT] at h h';exact s.tt l l' b h h'
 ·obtain⟨⟨h1,h2,h2'⟩,h3,h4,h5⟩:=s.zc b h
  refine⟨⟨h1,by omega,h2'⟩,fun hf=>?_,fun o c ho=>?_,h5.of_eq (hh b h2)⟩
  ·rcases hF b hf with k|k
   ·exact h3 k
   ·omega
  ·rcases hr o b c ho with⟨o',c',k⟩|k
   ·exact h4 o' c' k
   ·omega
 ·exact(s.zs b h).trans (.of_eq (hh b (s.zc b h).1.2.1))
theorem cQ.hb {cx:Cx} {E:Env} {w:World} (ok:cQ cx E w) {g:Bool} {b:Nat} (h:E.H g b):b<w.heap.size:=by
 cases g
 ·exact ok.fb b h
 ·exact ok.fb b (ok.gf b h)
theorem Ext.H {E E':Env} {w w':World} (x:Ext E w E' w') {g:Bool} {b:Nat} (h:E.H g b):E'.H g b:=by
 cases g
 ·exact x.F b h
 ·exact x.G b h
structure iq (E:Env) (w:World) (E':Env) (w':World):Prop where
 r:∀o x,E.r o=some x→E'.r o=some x
 H:∀g b,E.H g b→E'.H g b
 heap:∀g b,E.H g b→w'.heap[b]?=w.heap[b]?
 T:∀l b,E.T l b→E'.T l b∧w'.heap[b]?=w.heap[b]?
 Z:∀b,E.Z b→E'.Z b∧nW w w' b
 n:E'.n=E.n
theorem iq.of_ext {cx:Cx} {E E':Env} {w w':World} (ok:cQ cx E w) (x:Ext E w E' w'):iq E w E' w':=
 ⟨x.r,fun _ _ h=>x.H h,fun _ b h=>x.heap b (ok.hb h),fun l b h=>⟨by rw[x.T];exact h,x.heap b (ok.sf.tb l b h).1.1⟩,fun b h=>⟨by rw[x.Z];exact h,.of_eq (x.heap b (ok.sf.zb b h).1.2.1)⟩,x.n⟩
theorem qg {E E':Env} {w w':World} (x:iq E w E' w'):∀{c:C} {u:Value},cvC E w c u→cvC E' w' c u
 | .d g d,u,h=>cj (x.heap g) (x.H g) d u h
 | .w o n,u,⟨b,c,h,hu⟩=>⟨b,c,x.r _ _ h,hu⟩
 | .s o sz off len,u,⟨A,c,b,k,h,hu⟩=>⟨A,c,b,k,x.r _ _ h,hu⟩
 | .p o k,u,⟨b,c,h,hu⟩=>⟨b,c,x.r _ _ h,hu⟩
 | .e o sz i j,u,⟨b,c,h,hu⟩=>⟨b,c,x.r _ _ h,hu⟩
 | .q g y j,u,⟨b,k,hu,hb,h⟩=>⟨b,k,hu,x.H g b hb,rdL_mono (x.heap g) (x.H g) y b k hb h⟩
 | .fn f,u,h=>h
 | .nil,u,h=>h
 | .any,u,_=>trivial
 | .r l d,u,h=>cj (fun b hb=>(x.T l b hb).2) (fun b hb=>(x.T l b hb).1) d u h
 | .z d,u,h=>qx (fun b hb=>(x.Z b hb).2) (fun b hb=>(x.Z b hb).1) d u h
 | .zq y j,u,⟨b,k,hu,hb,h⟩=>⟨b,k,hu,(x.Z b hb).1,rsL_mono (fun b hb=>(x.Z b hb).2) (fun b hb=>(x.Z b hb).1) y b k hb h⟩
 | .wn o n,u,.inl ⟨h1,h2⟩=>.inl ⟨by rw[x.n];exact h1,h2⟩
 | .wn o n,u,.inr ⟨h1,b,c,h,hu⟩=>.inr ⟨by rw[x.n];exact h1,b,c,x.r _ _ h,hu⟩
theorem nV {E E':Env} {w w':World} (x:iq E w E' w'):∀{cs:List C} {us:List Value},CV E w cs us→CV E' w' cs us
 |[],[],_=>trivial
 |_::_,_::_,h=>⟨qg x h.1,nV x h.2⟩
 |[],_::_,h=>h.elim
 |_::_,[],h=>h.elim
theorem CJ {E E':Env} {w w':World} (x:iq E w E' w') {v:V} {u:Value} (h:cvV E w v u):cvV E' w' v u:=by
 cases v with
 |c c=>exact qg x h
 |agg cs=>obtain⟨arr,hu,h⟩:=h;exact⟨arr,hu,nV x h⟩
theorem Fz {E E':Env} {w w':World} (x:iq E w E' w'):∀{cs:List V} {us:List Value},VV E w cs us→VV E' w' cs us
 |[],[],_=>trivial
 |_::_,_::_,h=>⟨CJ x h.1,Fz x h.2⟩
 |[],_::_,h=>h.elim
 |_::_,[],h=>h.elim
theorem ie {E E':Env} {w w':World} (x:iq E w E' w') {t:T} {u:Value} (h:cvT E w t u):cvT E' w' t u:=by
 cases t with
 |v v=>exact CJ x h
 |tup ts=>obtain⟨arr,hu,h⟩:=h;exact⟨arr,hu,Fz x h⟩
 |any=>trivial
theorem fg {E E':Env} {w w':World} (x:iq E w E' w') {o:Nat} {ob:Ob} (hb:∀b c,E.r o=some (b,c)→w'.heap[b]?=w.heap[b]?) (hF:∀b c,E.r o=some (b,c)→¬E.F b→¬E'.F b)
 (h:cy E w o ob):cy E' w' o ob:=by
 cases ob with
 |var ty cs=>
  obtain⟨b,c,arr,hr,hh,hc,hf⟩:=h
  exact⟨b,c,arr,x.r _ _ hr,(hb b c hr).trans hh,nV x hc,hF b c hr hf⟩
 |row ty sz els g m=>
  obtain⟨b,c,arr,hr,hh,h1,h2,h3,h4,h5,h6,h7⟩:=h
  exact⟨b,c,arr,x.r _ _ hr,(hb b c hr).trans hh,h1,h2,h3,h4,cm (x.heap g) (x.H g) (hb b c hr) _ _ h5,fun hm=>hF b c hr (h6 hm),fun hm=>⟨x.H false b (h7 hm).1,fun hg=>x.H true b ((h7 hm).2 hg)⟩⟩
 |rown ty sz els g=>
  rcases h with⟨h0,h1⟩|⟨h0,b,c,arr,hr,hh,h1,h2,h3,h4,h5,h6⟩
  ·exact .inl ⟨by rw[x.n];exact h0,h1⟩
  ·exact .inr ⟨by rw[x.n];exact h0,b,c,arr,x.r _ _ hr,(hb b c hr).trans hh,h1,h2,h3,h4,cm (x.heap g) (x.H g) (hb b c hr) _ _ h5,hF b c hr h6⟩
 |abs l y=>
  rcases h with⟨h0,h1⟩|⟨h0,b,c,hr,h1,h2⟩
  ·exact .inl ⟨by rw[x.n];exact h0,h1⟩
  ·exact .inr ⟨by rw[x.n];exact h0,b,c,x.r _ _ hr,y.st b c _ _ w w' h1 (fun k hk=>(x.T l k hk).1) (hb b c hr) (fun k hk=>(x.T l k hk).2),hF b c hr h2⟩
theorem yg {cx:Cx} {E E':Env} {w w':World} (ok:cQ cx E w) (x:Ext E w E' w') {o:Nat} {ob:Ob} (h:cy E w o ob):cy E' w' o ob:=
 fg (.of_ext ok x) (fun b c hr=>x.heap b (ok.rb _ _ _ hr).1) (fun b c hr hf hf'=>by
  have:=(ok.rb _ _ _ hr).1
  rcases x.F' b hf' with h|h
  ·exact hf h
  ·omega) h
def gt:List (Nat×T)→Nat→T
 |[],_=>.any
 |(k,v)::r,n=>bif d0 k n then v else gt r n
def go:List (Nat×Ob)→Nat→Option Ob
 |[],_=>none
 |(k,v)::r,n=>bif d0 k n then some v else go r n
theorem pW {k n:Nat} (h:k≠n):d0 k n=false:=by
 rcases hb:d0 k n with _|_
 ·rfl
 ·exact absurd (To hb) h
theorem dL (k:Nat) (v:T) (r:List (Nat×T)):gt ((k,v)::r) k=v:=by simp[gt]
theorem cR {k n:Nat} (v:T) (r:List (Nat×T)) (h:k≠n):gt ((k,v)::r) n=gt r n:=by simp[gt,pW h]
theorem cg (k:Nat) (v:Ob) (r:List (Nat×Ob)):go ((k,v)::r) k=some v:=by simp[go]
theorem bA {k n:Nat} (v:Ob) (r:List (Nat×Ob)) (h:k≠n):go ((k,v)::r) n=go r n:=by simp[go,pW h]
structure St where
 sl:List (Nat×T)
 ob:List (Nat×Ob)
 nx:Nat
structure Rel (N:Nat) (cx:Cx) (E:Env) (st:St) (a:Act) (w:World):Prop where
 ok:cQ cx E w
 dom:∀o x,E.r o=some x→o<st.nx
 obs:∀o ob,go st.ob o=some ob→cy E w o ob
 sl:∀k,cvT E w (gt st.sl k) (a.tmps.getD k undef)
 dfr:a.defers=[]
 size:a.tmps.size=N
 td:∀l b,E.T l b→l<st.nx
def vm:Value→C
 | .int k n=>.d false (.i k n)
 | .bool b=>.d false (.b b)
 | .string s=>.d false (.str s)
 | .slice a n c=>bif a.isNone&&d0 n 0&&d0 c 0 then .nil else .any
 |_=>.any
theorem ub (E:Env) (w:World) (u:Value):cvC E w (vm u) u:=by
 cases u with
 |slice a n c=>
  simp only[vm]
  cases h:a.isNone&&d0 n 0&&d0 c 0 with
  |false=>exact trivial
  |true=>
   simp only[hV,Option.isNone_iff_eq_none] at h
   obtain⟨⟨rfl,h1⟩,h2⟩:=h
   have e1:=To h1
   have e2:=To h2
   subst e1;subst e2
   exact rfl
 |_=>simp only[vm,cvC,rdD]
def opT (sl:List (Nat×T)):Operand→T
 | .tmp k=>gt sl k
 | .const (.int k n)=>.v (.c (.d false (.i k n)))
 | .const (.bool b)=>.v (.c (.d false (.b b)))
 | .const (.string s)=>.v (.c (.d false (.str s)))
 | .const (.agg cs)=>.v (.agg (cs.toList.map vm))
 | .const v=>.v (.c (vm v))
 | .func f=>.v (.c (.fn f))
 | .global _=>.any
theorem qc (E:Env) (w:World):∀us:List Value,CV E w (us.map vm) us
 |[]=>trivial
 |u::us=>⟨ub E w u,qc E w us⟩
theorem Rel.op {N:Nat} {cx:Cx} {E:Env} {st:St} {a:Act} {w:World} (h:Rel N cx E st a w) (x:Operand):cvT E w (opT st.sl x) (a.eval x):=by
 cases x with
 |tmp k=>exact h.sl k
 |const v=>
  cases v<;>simp only[opT,Act.eval,cvT,cvV]<;>first|exact ub E w _|exact⟨_,rfl,qc E w _⟩|(simp only[cvC,rdD])
 |func f=>simp[opT,Act.eval,cvT,cvV,cvC]
 |global g=>simp[opT,cvT]
def AWN (P:Program) (o:Oper) (needs:List (Operand×T)) (nob:List (Nat×Ob)) (out:T) (nw:List (Nat×Ob)):Prop:=
 ∀(cx:Cx) (E:Env) (a:Act) (w:World),cQ cx E w→(∀x t,(x,t)∈needs→cvT E w t (a.eval x))→(∀l ob,(l,ob)∈nob→cy E w l ob)→
  (∀l ob,(l,ob)∈nw→E.r l=none∧rsv l=false)→
  o.wp P a w (fun a' w'=>∃v E',a'=a.put o.dst v∧cQ cx E' w'∧Ext E w E' w'∧cvT E' w' out v∧(∀l ob,(l,ob)∈nw→cy E' w' l ob)∧
   (∀l x,E'.r l=some x→E.r l=some x∨∃ob,(l,ob)∈nw)) (fun _ _ _=>False)
theorem b7 {P:Program} {o:Oper} {needs:List (Operand×T)} {nob:List (Nat×Ob)} {out:T}
 (h:∀(E:Env) (a:Act) (w:World),(∀x t,(x,t)∈needs→cvT E w t (a.eval x))→(∀l ob,(l,ob)∈nob→cy E w l ob)→
  ∃v,(execOp a.eval o).run P w= .ok (.value v) w∧cvT E w out v):AWN P o needs nob out []:=by
 intro cx E a w ok hn hb _
 obtain⟨v,hr,hv⟩:=h E a w hn hb
 unfold Oper.wp
 rw[hr]
 exact⟨v,E,rfl,ok,Ext.refl E w,hv,(fun _ _ h=>by simp at h),fun _ _ h=>.inl h⟩
def AWO (P:Program) (N:Nat) (o:Oper) (st st':St):Prop:=
 ∀(cx:Cx) (E:Env) (a:Act) (w:World),Rel N cx E st a w→o.wp P a w (fun a' w'=>∃E',Rel N cx E' st' a' w') (fun _ _ _=>False)
def Lk (sl:List (Nat×T)):List (Operand×T)→Prop
 |[]=>True
 |(x,t)::r=>opT sl x=t∧Lk sl r
def Lo (ob:List (Nat×Ob)):List (Nat×Ob)→Prop
 |[]=>True
 |(l,x)::r=>go ob l=some x∧Lo ob r
def Nw (nx:Nat):List (Nat×Ob)→Nat→Prop
 |[],n=>n=nx
 |(l,_)::r,n=>(l=nx∧rsv l=false)∧Nw (nx+1) r n
theorem Lk.mem {sl:List (Nat×T)}:∀{l:List (Operand×T)},Lk sl l→∀x t,(x,t)∈l→opT sl x=t
 |(y,s)::r,h,x,t,hm=>by
  rcases Tq.1 hm with e|e
  ·cases e;exact h.1
  ·exact Lk.mem h.2 x t e
theorem Lo.mem {ob:List (Nat×Ob)}:∀{l:List (Nat×Ob)},Lo ob l→∀x t,(x,t)∈l→go ob x=some t
 |(y,s)::r,h,x,t,hm=>by
  rcases Tq.1 hm with e|e
  ·cases e;exact h.1
  ·exact Lo.mem h.2 x t e
theorem Nw.mem:∀{l:List (Nat×Ob)} {nx n:Nat},Nw nx l n→nx≤n∧∀x t,(x,t)∈l→nx≤x∧x<n∧rsv x=false
 |[],nx,n,h=>⟨by rw[Nw] at h;omega,fun _ _ h=>by simp at h⟩
 |(y,s)::r,nx,n,h=>by
  rw[Nw] at h
  obtain⟨h1,h2⟩:=Nw.mem h.2
  refine⟨by omega,fun x t hm=>?_⟩
  rcases Tq.1 hm with e|e
  ·cases e;exact⟨by omega,by omega,h.1.2⟩
  ·have:=h2 x t e;exact⟨by omega,this.2.1,this.2.2⟩
theorem xW {nw ob:List (Nat×Ob)} {o:Nat} {x:Ob} (h:go (nw++ob) o=some x):(o,x)∈nw∨go ob o=some x:=by
 induction nw with
 |nil=>exact .inr h
 |cons p r ih=>
  obtain⟨k,v⟩:=p
  by_cases hk:k=o
  ·subst hk
   rw[TD,cg] at h
   cases h
   exact .inl (by simp)
  ·rw[TD,bA v _ hk] at h
   rcases ih h with h|h
   ·exact .inl (by simp[h])
   ·exact .inr h
theorem fO {a:Act} {d:Tmp} {v:Value} (h:d<a.tmps.size) (k:Nat):(a.put (some d) v).tmps.getD k undef=if d=k then v else a.tmps.getD k undef:=by
 by_cases hk:d=k
 ·subst hk;simp[Act.put,h]
 ·simp[Act.put,hk,Array.getElem?_setIfInBounds_ne hk]
theorem HY {P:Program} {N:Nat} {o:Oper} {st:St} {needs:List (Operand×T)} {nob:List (Nat×Ob)} {out:T} {nw:List (Nat×Ob)} {d:Tmp} {n:Nat}
 (h:AWN P o needs nob out nw) (hd:o.dst=some d) (hN:d<N) (hn:Lk st.sl needs) (hb:Lo st.ob nob) (hw:Nw st.nx nw n):
 AWO P N o st ⟨(d,out)::st.sl,nw++st.ob,n⟩:=by
 intro cx E a w hR
 obtain⟨hx1,hx2⟩:=Nw.mem hw
 refine Oper.wp_mono ?_ (h cx E a w hR.ok (fun x t hm=>by have:=hR.op x;rwa [Lk.mem hn x t hm] at this) (fun l ob hm=>hR.obs l ob (Lo.mem hb l ob hm))
  (fun l ob hm=>by
   refine⟨?_,(hx2 l ob hm).2.2⟩
   rcases hr:E.r l with _|x
   ·rfl
   ·have:=hR.dom l x hr;have:=hx2 l ob hm;omega))
 rintro a' w' ⟨v,E',rfl,ok',ext,hv,hob,hdom⟩
 refine⟨E',ok',fun l x hl=>?_,fun l ob hl=>?_,fun k=>?_,?_,?_,?_⟩
 ·rcases hdom l x hl with h|⟨ob,h⟩
  ·have:=hR.dom l x h;show l<n;omega
  ·exact(hx2 l ob h).2.1
 ·rcases xW hl with h|h
  ·exact hob l ob h
  ·exact yg hR.ok ext (hR.obs l ob h)
 ·rw[hd,fO (by rw[hR.size];exact hN)]
  by_cases hk:d=k
  ·subst hk;rw[dL,if_pos rfl];exact hv
  ·rw[cR _ _ hk,if_neg hk];exact ie (.of_ext hR.ok ext) (hR.sl k)
 ·rw[hd];exact hR.dfr
 ·rw[hd];simpa [Act.put] using hR.size
 ·intro l b h
  rw[ext.T] at h
  have:=hR.td l b h
  show l<n;omega
end Go.AM
namespace Go.AM
open Go.RowKit
theorem oV {P:Program} {o:Oper} {a:Act} {w:World} {K:Act→World→Prop} {Q Q':Exit→Act→World→Prop} (hQ:∀e a w,Q e a w→Q' e a w)
 (hh:o.wp P a w K Q):o.wp P a w K Q':=by
 unfold Oper.wp at*
 generalize (execOp a.eval o).run P w=r at*
 cases r with
 |ok n w'=>
  cases n<;>simp only[Oper.upon] at hh ⊢<;>
   first
    |exact hh
    |exact Calls.mono hh (fun e w'' he=>by
     cases e<;>first|exact he|exact hQ _ _ _ he|(obtain⟨a0,w0,h0⟩:=he;exact⟨a0,w0,hQ _ _ _ h0⟩))
 |halt x w'=>cases x<;>simp only[Oper.upon] at hh ⊢<;>first|exact hh|exact hQ _ _ _ hh
def AO (N:Nat) (cx:Cx) (AQ:Exit→St→Prop):Exit→Act→World→Prop:=fun e a w=>∃E st,Rel N cx E st a w∧AQ e st
def onN (K:St→Prop):Exit→St→Prop
 | .normal,s=>K s
 |_,_=>False
def sr (K:St→Prop) (AQ:Exit→St→Prop):Exit→St→Prop
 | .normal,s=>K s
 |e,s=>AQ e s
def AWR (P:Program) (N:Nat) (ops:Array Oper) (l:List Oper) (st:St) (K:St→Prop):Prop:=
 ∀(cx:Cx) (E:Env) (a:Act) (w:World),Rel N cx E st a w→wpList P ops (AO N cx (onN K)) l a w
def AWC (P:Program) (N:Nat) (c:Code) (st:St) (AQ:Exit→St→Prop):Prop:=
 ∀(cx:Cx) (E:Env) (a:Act) (w:World),Rel N cx E st a w→c.wp P (AO N cx AQ) a w
section
variable {P:Program} {N:Nat} {ops:Array Oper} {l:List Oper} {o:Oper} {st st':St} {K:St→Prop} {AQ:Exit→St→Prop}
theorem D0 (h:K st):AWR P N ops [] st K:=fun cx E a w hR=>wpList_nil ⟨E,st,hR,h⟩
theorem pT {Q:Exit→Act→World→Prop} {a:Act} {w:World}:wpList P ops Q (o::l) a w=if Region.wanted o (yielded ops a.tmps) then o.wp P a w (wpList P ops Q l) Q∨(o.asks P a w∧LetsOut Q) else wpList P ops Q l (a.put o.dst undef) w:=rfl
theorem eS (hg:o.guard=none) (h:AWO P N o st st') (h':AWR P N ops l st' K):AWR P N ops (o::l) st K:=by
 intro cx E a w hR
 rw[pT,if_pos (by simp[Region.wanted,hg])]
 exact .inl (oV (fun _ _ _ h=>h.elim) (Oper.wp_mono (fun a' w' ⟨E',hR'⟩=>h' cx E' a' w' hR') (h cx E a w hR)))
theorem BX {N:Nat} {cx:Cx} {E:Env} {a:Act} {w:World} {j:Nat} {dj:Tmp} {b:Bool} (hR:Rel N cx E st a w) (hj:(ops[j]?).bind (·.dst)=some dj) (hdj:dj<N) (hb:gt st.sl dj=tB b):
 yielded ops a.tmps j=some b:=by
 have:=hR.sl dj
 rw[hb] at this
 simp only[cvT,cvV,cvC,rdD] at this
 have hs:dj<a.tmps.size:=by rw[hR.size];exact hdj
 have h2:a.tmps[dj]?=some (.bool b):=by
  rw[TA hs]
  simpa [TP,hs] using this
 unfold yielded
 cases ho:ops[j]? with
 |none=>simp[ho] at hj
 |some o=>
  simp[ho] at hj
  simp[hj,h2]
theorem js {j:Nat} {dj:Tmp} {b:Bool} (hg:o.guard=some (j,b)) (hj:(ops[j]?).bind (·.dst)=some dj) (hdj:dj<N) (hb:gt st.sl dj=tB b) (h:AWO P N o st st') (h':AWR P N ops l st' K):
 AWR P N ops (o::l) st K:=by
 intro cx E a w hR
 rw[pT,if_pos (by simp[Region.wanted,hg,BX hR hj hdj hb])]
 exact .inl (oV (fun _ _ _ h=>h.elim) (Oper.wp_mono (fun a' w' ⟨E',hR'⟩=>h' cx E' a' w' hR') (h cx E a w hR)))
theorem Rel.putAny {cx:Cx} {E:Env} {a:Act} {w:World} (hR:Rel N cx E st a w) {d:Tmp} (hd:d<N) (v:Value):Rel N cx E ⟨(d,.any)::st.sl,st.ob,st.nx⟩ (a.put (some d) v) w:=by
 refine⟨hR.ok,hR.dom,hR.obs,fun k=>?_,hR.dfr,by simpa [Act.put] using hR.size,hR.td⟩
 rw[fO (by rw[hR.size];exact hd)]
 by_cases hk:d=k
 ·subst hk;rw[dL];trivial
 ·rw[cR _ _ hk,if_neg hk];exact hR.sl k
def noG (b:Bool):T→Bool
 | .v (.c (.d _ (.b c)))=>c==!b
 | .tup []=>true
 |_=>false
theorem BZ {N:Nat} {ops:Array Oper} {E:Env} {tmps:Array Value} {w:World} {j:Nat} {dj:Tmp} {b:Bool} {t:T} (hv:cvT E w t (tmps.getD dj undef)) (hs:dj<tmps.size) (hj:(ops[j]?).bind (·.dst)=some dj) (hb:noG b t=true):
 yielded ops tmps j≠some b:=by
 have h2:tmps[dj]?=some (tmps.getD dj undef):=by rw[TA hs];simp[TP,hs]
 unfold yielded
 rw[hj]
 simp only[Option.bind_some,h2]
 unfold noG at hb
 split at hb
 ·rename_i g c
  simp only[cvT,cvV,cvC,rdD] at hv
  rw[hv]
  simp at hb;subst hb
  simp
 ·obtain⟨arr,h1,h3⟩:=hv
  rw[h1];simp
 ·cases hb
theorem Rel.putUnd {cx:Cx} {E:Env} {a:Act} {w:World} (hR:Rel N cx E st a w) {d:Tmp} (hd:d<N):Rel N cx E ⟨(d,.tup [])::st.sl,st.ob,st.nx⟩ (a.put (some d) undef) w:=by
 refine⟨hR.ok,hR.dom,hR.obs,fun k=>?_,hR.dfr,by simpa [Act.put] using hR.size,hR.td⟩
 rw[fO (by rw[hR.size];exact hd)]
 by_cases hk:d=k
 ·subst hk;rw[dL,if_pos rfl];exact⟨#[],rfl,trivial⟩
 ·rw[cR _ _ hk,if_neg hk];exact hR.sl k
theorem Ab {j:Nat} {dj d:Tmp} {b:Bool} (hg:o.guard=some (j,b)) (hj:(ops[j]?).bind (·.dst)=some dj) (hdj:dj<N) (hb:noG b (gt st.sl dj)=true) (hd:o.dst=some d) (hN:d<N)
 (h':AWR P N ops l ⟨(d,.tup [])::st.sl,st.ob,st.nx⟩ K):AWR P N ops (o::l) st K:=by
 intro cx E a w hR
 rw[pT,if_neg (by simp[Region.wanted,hg,BZ (N:=N) (hR.sl dj) (by rw[hR.size];exact hdj) hj hb]),hd]
 exact h' cx E _ w (hR.putUnd hN)
theorem Rel.decide {cx:Cx} {E:Env} {a:Act} {w:World} (hR:Rel N cx E st a w) {d:Tmp} {b c:Bool} (hb:gt st.sl d=tB b) (h:b=c):Rel N cx E ⟨(d,tB c)::st.sl,st.ob,st.nx⟩ a w:=by
 refine⟨hR.ok,hR.dom,hR.obs,fun k=>?_,hR.dfr,hR.size,hR.td⟩
 by_cases hk:d=k
 ·subst hk;rw[dL,←h,←hb];exact hR.sl d
 ·rw[cR _ _ hk];exact hR.sl k
theorem KW {d:Tmp} {b:Bool} (hb:gt st.sl d=tB b) (h1:b=true→AWR P N ops l ⟨(d,tB true)::st.sl,st.ob,st.nx⟩ K) (h0:b=false→AWR P N ops l ⟨(d,tB false)::st.sl,st.ob,st.nx⟩ K):
 AWR P N ops l st K:=by
 intro cx E a w hR
 cases hc:b with
 |true=>exact h1 hc cx E a w (hR.decide hb hc)
 |false=>exact h0 hc cx E a w (hR.decide hb hc)
theorem Mx {K':St→Prop} (h:∀s,K s→K' s) (hh:AWR P N ops l st K):AWR P N ops l st K':=by
 intro cx E a w hR
 have:=hh cx E a w hR
 revert this
 have key:∀(l:List Oper) (a:Act) (w:World),wpList P ops (AO N cx (onN K)) l a w→wpList P ops (AO N cx (onN K')) l a w:=by
  intro l
  have hQ:∀e a w,AO N cx (onN K) e a w→AO N cx (onN K') e a w:=by
   rintro e a w ⟨E,s,hR,hq⟩
   refine⟨E,s,hR,?_⟩
   cases e<;>simp only[onN] at hq ⊢
   exact h s hq
  induction l with
  |nil=>exact fun a w h=>hQ _ _ _ h
  |cons o l ih=>
   intro a w hw
   rw[pT] at hw ⊢
   split
   ·rename_i hwt
    rw[if_pos hwt] at hw
    rcases hw with hw|⟨h1,a0,w0,h2⟩
    ·exact .inl (oV hQ (Oper.wp_mono ih hw))
    ·exact .inr ⟨h1,a0,w0,hQ _ _ _ h2⟩
   ·rename_i hwt
    rw[if_neg hwt] at hw
    exact ih _ _ hw
 exact key l a w
theorem wg {c:Code} {AQ':Exit→St→Prop} (h:AWC P N c st AQ) (hq:∀e s,AQ e s→AQ' e s):AWC P N c st AQ':=
 fun cx E a w hR=>wp_mono (h cx E a w hR) fun e a w ⟨E,s,hR,q⟩=>⟨E,s,hR,hq e s q⟩
theorem Aa (h:AQ .normal st):AWC P N .skip st AQ:=fun cx E a w hR=>wp_skip ⟨E,st,hR,h⟩
theorem DX (h:AQ .ret st):AWC P N .ret st AQ:=fun cx E a w hR=>wp_ret ⟨E,st,hR,h⟩
theorem z8 {id:Nat} (h:AQ (.exit id) st):AWC P N (.exit id) st AQ:=fun cx E a w hR=>wp_exit ⟨E,st,hR,h⟩
theorem zw {x y:Code} (h:AWC P N x st (sr (fun s=>AWC P N y s AQ) AQ)):AWC P N (x.seq y) st AQ:=fun cx E a w hR=>
 wp_seq (wp_mono (h cx E a w hR) fun e a w ⟨E,s,hR,q⟩=>by
  cases e<;>first|exact q cx E a w hR|exact⟨E,s,hR,q⟩)
theorem qP {id:Nat} {l:List Oper} (h:AWR P N l.toArray l st (fun s=>AQ .normal s)):AWC P N (.region id l.toArray false) st AQ:=fun cx E a w hR=>
 wp_mono (wp_region_lit (h cx E a w hR)) fun e a w ⟨E,s,hR,q⟩=>⟨E,s,hR,by cases e<;>first|exact q|exact q.elim⟩
theorem n0 {id:Nat} {l:List Oper} {y:Code} (h:AWR P N l.toArray l st (fun s=>AWC P N y s AQ)):AWC P N ((Code.region id l.toArray false).seq y) st AQ:=
 zw (qP h)
theorem xT {cx:Cx} {E:Env} {a:Act} {w:World} {c:Operand} {b:Bool} (hR:Rel N cx E st a w) (hb:opT st.sl c=tB b):a.eval c= .bool b:=by
 have:=hR.op c
 rw[hb] at this
 simpa [cvT,cvV,cvC,rdD] using this
theorem pU {c:Operand} {x y:Code} (hb:opT st.sl c=tB true) (h:AWC P N x st AQ):AWC P N (.cond c x y) st AQ:=fun cx E a w hR=>wp_cond_true (xT hR hb) (h cx E a w hR)
theorem nZ {c:Operand} {x y:Code} (hb:opT st.sl c=tB false) (h:AWC P N y st AQ):AWC P N (.cond c x y) st AQ:=fun cx E a w hR=>wp_cond_false (xT hR hb) (h cx E a w hR)
theorem mf {c:Operand} {x y:Code} {b:Bool} (hb:opT st.sl c=tB b) (h1:b=true→AWC P N x st AQ) (h0:b=false→AWC P N y st AQ):AWC P N (.cond c x y) st AQ:=fun cx E a w hR=>
 wp_cond_split (xT hR hb) (fun h=>h1 h cx E a w hR) (fun h=>h0 h cx E a w hR)
def jm (id:Nat) (AQ:Exit→St→Prop):Exit→St→Prop
 | .exit n,s=>bif d0 n id then AQ .normal s else AQ (.exit n) s
 |e,s=>AQ e s
theorem xM {id:Nat} {c:Code} (h:AWC P N c st (jm id AQ)):AWC P N (.block id c) st AQ:=fun cx E a w hR=>
 wp_block (wp_mono (h cx E a w hR) fun e a w ⟨E,s,hR,q⟩=>by
  cases e with
  |exit n=>
   simp only[Exit.inBlock]
   by_cases hn:n=id
   ·subst hn;rw[if_pos rfl];exact⟨E,s,hR,by simpa [jm] using q⟩
   ·rw[if_neg hn];exact⟨E,s,hR,by simpa [jm,pW hn] using q⟩
  |_=>exact⟨E,s,hR,q⟩)
def cZ (N:Nat) (st st':St):Prop:=∀(cx:Cx) (E:Env) (a:Act) (w:World),Rel N cx E st a w→∃E',Rel N cx E' st' a w
theorem jr {c:Code} (hw:cZ N st st') (h:AWC P N c st' AQ):AWC P N c st AQ:=fun cx E a w hR=>let ⟨E',hR'⟩:=hw cx E a w hR;h cx E' a w hR'
theorem bT (hw:cZ N st st') (h:AWR P N ops l st' K):AWR P N ops l st K:=fun cx E a w hR=>let ⟨E',hR'⟩:=hw cx E a w hR;h cx E' a w hR'
def C.lt (n:Nat):C→Bool
 | .w o _| .s o _ _ _| .p o _| .e o _ _ _| .r o _| .wn o _=>nlt o n
 |_=>true
def V.lt (n:Nat):V→Bool
 | .c x=>x.lt n
 | .agg cs=>cs.all (C.lt n)
def T.lt (n:Nat):T→Bool
 | .v x=>x.lt n
 | .tup ts=>ts.all (V.lt n)
 | .any=>true
def Ob.lt (n:Nat):Ob→Bool
 | .var _ cs=>cs.all (C.lt n)
 | .row .. | .rown .. =>true
 | .abs l _=>nlt l n
theorem cK {a b:Nat} (h:nlt a b=true):a<b:=Nat.le_of_ble_eq_true h
def LeS (sl:List (Nat×T)) (n:Nat):List (Nat×T)→Prop
 |[]=>True
 |(k,t)::r=>gt sl k=t∧t.lt n=true∧LeS sl n r
def LeO (ob:List (Nat×Ob)) (n:Nat):List (Nat×Ob)→Prop
 |[]=>True
 |(l,x)::r=>go ob l=some x∧(nlt l n=true∧x.lt n=true)∧LeO ob n r
theorem LeS.gt {sl sl':List (Nat×T)} {n:Nat} (h:LeS sl n sl') (k:Nat):(AM.gt sl' k= .any∨AM.gt sl' k=AM.gt sl k)∧(AM.gt sl' k).lt n=true:=by
 induction sl' with
 |nil=>exact⟨.inl rfl,rfl⟩
 |cons p r ih=>
  obtain⟨j,t⟩:=p
  by_cases hj:j=k
  ·subst hj;rw[dL];exact⟨.inr h.1.symm,h.2.1⟩
  ·rw[cR _ _ hj];exact ih h.2.2
theorem LeO.go {ob ob':List (Nat×Ob)} {n:Nat} (h:LeO ob n ob') {l:Nat} {x:Ob} (hl:AM.go ob' l=some x):AM.go ob l=some x∧l<n∧x.lt n=true:=by
 induction ob' with
 |nil=>cases hl
 |cons p r ih=>
  obtain⟨j,t⟩:=p
  by_cases hj:j=l
  ·subst hj;rw[cg] at hl;cases hl;exact⟨h.1,cK h.2.1.1,h.2.1.2⟩
  ·rw[bA _ _ hj] at hl;exact ih h.2.2 hl
def Env.below (E:Env) (n:Nat):Env:={E with r:=fun o=>if o<n then E.r o else none,T:=fun l b=>l<n∧E.T l b}
theorem MH {E:Env} {w:World} {n:Nat}:∀{c:C} {u:Value},c.lt n=true→cvC E w c u→cvC (E.below n) w c u
 | .d g d,u,_,h=>h
 | .w o m,u,hl,⟨b,c,h,hu⟩=>⟨b,c,by rw[Env.below];simp only;rw[if_pos (cK hl)];exact h,hu⟩
 | .s o sz off len,u,hl,⟨A,c,b,k,h,hu⟩=>⟨A,c,b,k,by rw[Env.below];simp only;rw[if_pos (cK hl)];exact h,hu⟩
 | .p o k,u,hl,⟨b,c,h,hu⟩=>⟨b,c,by rw[Env.below];simp only;rw[if_pos (cK hl)];exact h,hu⟩
 | .e o sz i j,u,hl,⟨b,c,h,hu⟩=>⟨b,c,by rw[Env.below];simp only;rw[if_pos (cK hl)];exact h,hu⟩
 | .q g y j,u,_,h=>h
 | .fn f,u,_,h=>h
 | .nil,u,_,h=>h
 | .any,u,_,_=>trivial
 | .r l d,u,hl,h=>cj (F':=(E.below n).T l) (fun _ _=>rfl) (fun b hb=>⟨cK hl,hb⟩) d u h
 | .z d,u,_,h=>h
 | .zq y j,u,_,h=>h
 | .wn o m,u,_,.inl h=>.inl h
 | .wn o m,u,hl,.inr ⟨h0,b,c,h,hu⟩=>.inr ⟨h0,b,c,by rw[Env.below];simp only;rw[if_pos (cK hl)];exact h,hu⟩
theorem Md {E:Env} {w:World} {n:Nat}:∀{cs:List C} {us:List Value},cs.all (C.lt n)=true→CV E w cs us→CV (E.below n) w cs us
 |[],[],_,_=>trivial
 |c::cs,u::us,hl,h=>by
  simp only[TF,hV] at hl
  exact⟨MH hl.1 h.1,Md hl.2 h.2⟩
 |[],_::_,_,h=>h.elim
 |_::_,[],_,h=>h.elim
theorem MK {E:Env} {w:World} {n:Nat} {v:V} {u:Value} (hl:v.lt n=true) (h:cvV E w v u):cvV (E.below n) w v u:=by
 cases v with
 |c c=>exact MH hl h
 |agg cs=>obtain⟨arr,hu,h⟩:=h;exact⟨arr,hu,Md hl h⟩
theorem Q5 {E:Env} {w:World} {n:Nat}:∀{cs:List V} {us:List Value},cs.all (V.lt n)=true→VV E w cs us→VV (E.below n) w cs us
 |[],[],_,_=>trivial
 |c::cs,u::us,hl,h=>by
  simp only[TF,hV] at hl
  exact⟨MK hl.1 h.1,Q5 hl.2 h.2⟩
 |[],_::_,_,h=>h.elim
 |_::_,[],_,h=>h.elim
theorem RA {E:Env} {w:World} {n:Nat} {t:T} {u:Value} (hl:t.lt n=true) (h:cvT E w t u):cvT (E.below n) w t u:=by
 cases t with
 |v v=>exact MK hl h
 |tup ts=>obtain⟨arr,hu,h⟩:=h;exact⟨arr,hu,Q5 hl h⟩
 |any=>trivial
theorem Ol {E:Env} {w:World} {n o:Nat} {ob:Ob} (ho:o<n) (hl:ob.lt n=true) (h:cy E w o ob):cy (E.below n) w o ob:=by
 cases ob with
 |var ty cs=>
  obtain⟨b,c,arr,hr,hh,hc,hF⟩:=h
  exact⟨b,c,arr,by simp only[Env.below];rw[if_pos ho];exact hr,hh,Md hl hc,hF⟩
 |row ty sz els g m=>
  obtain⟨b,c,arr,hr,h⟩:=h
  exact⟨b,c,arr,by simp only[Env.below];rw[if_pos ho];exact hr,h⟩
 |rown ty sz els g=>
  rcases h with h|⟨h0,b,c,arr,hr,h⟩
  ·exact .inl h
  ·exact .inr ⟨h0,b,c,arr,by simp only[Env.below];rw[if_pos ho];exact hr,h⟩
 |abs l y=>
  rcases h with h|⟨h0,b,c,hr,h1,h2⟩
  ·exact .inl h
  ·exact .inr ⟨h0,b,c,by simp only[Env.below];rw[if_pos ho];exact hr,y.st b c _ _ w w h1 (fun k hk=>⟨cK hl,hk⟩) rfl (fun _ _=>rfl),h2⟩
theorem cQ.below {cx:Cx} {E:Env} {w:World} (ok:cQ cx E w) (n:Nat):cQ cx (E.below n) w:=by
 have hr:∀o x,(E.below n).r o=some x→E.r o=some x:=fun o x h=>by
  simp only[Env.below] at h;split at h
  ·exact h
  ·cases h
 refine⟨ok.fb,ok.gf,ok.gn,fun o b c h=>ok.rb o b c (hr o _ h),fun o o' b c c' h h'=>ok.inj o o' b c c' (hr _ _ h) (hr _ _ h'),ok.os,ok.tape,ok.output,ok.size,ok.block,fun o x hv h=>ok.pin o x hv (hr o _ h),ok.ff,ok.gc,⟨fun l b h=>?_,fun l l' b h h'=>ok.sf.tt l l' b h.2 h'.2,fun b h=>?_,ok.sf.zs,ok.sf.ze⟩⟩
 ·obtain⟨h1,h2,h3,h4⟩:=ok.sf.tb l b h.2
  exact⟨h1,h2,fun o c ho=>h3 o c (hr o _ ho),h4⟩
 ·obtain⟨h1,h2,h3,h4⟩:=ok.sf.zc b h
  exact⟨h1,h2,fun o c ho=>h3 o c (hr o _ ho),h4⟩
theorem d9 (h1:LeS st.sl st'.nx st'.sl) (h2:LeO st.ob st'.nx st'.ob):cZ N st st':=by
 intro cx E a w hR
 refine⟨E.below st'.nx,hR.ok.below _,fun o x h=>?_,fun o ob h=>?_,fun k=>?_,hR.dfr,hR.size,fun l b h=>h.1⟩
 ·simp only[Env.below] at h;split at h
  ·assumption
  ·cases h
 ·obtain⟨h1,h2,h3⟩:=h2.go h
  exact Ol h2 h3 (hR.obs o ob h1)
 ·obtain⟨h1,h2⟩:=h1.gt k
  rcases h1 with h1|h1
  ·rw[h1];trivial
  ·rw[h1] at h2 ⊢;exact RA h2 (hR.sl k)
theorem Mv {c:Code} {σ:Type} (I:σ→Prop) (S:σ→St) (μ:σ→Nat) (x0:σ) (i0:I x0) (h0:cZ N st (S x0))
 (round:∀x,I x→AWC P N c (S x) (sr (fun s=>∃x',I x'∧cZ N s (S x')∧μ x'<μ x) AQ)):AWC P N (.loop c) st AQ:=by
 intro cx E a w hR b k cs
 have key:∀n x,μ x=n→I x→∀E a w,Rel N cx E (S x) a w→
  ∃e a' w',AO N cx AQ e a' w'∧Arrives P (lone (b.at a (.code c:: .inLoop c::k)) cs w) b k cs e a' w':=by
  intro n
  induction n using Nat.strongRecOn with
  |_ n ih=>
   intro x hn hI E a w hR
   obtain⟨e,a₁,w₁,⟨E₁,s₁,hR₁,hq⟩,harr⟩:=round x hI cx E a w hR b (.inLoop c::k) cs
   cases e with
   |normal=>
    obtain⟨x',hI',hW,hlt⟩:=hq
    obtain⟨E',hR'⟩:=hW cx E₁ a₁ w₁ hR₁
    obtain⟨e₂,a₂,w₂,hq₂,harr₂⟩:=ih (μ x') (hn▸hlt) x' rfl hI' E' a₁ w₁ hR'
    exact⟨e₂,a₂,w₂,hq₂,.of_steps (Steps.trans harr (.one step_inLoop)) harr₂⟩
   |exit id=>exact⟨_,a₁,w₁,⟨E₁,s₁,hR₁,hq⟩,.pass (x:=.inLoop c) rfl (fun _ _=>.inl (by simp)) harr⟩
   |goto l=>exact⟨_,a₁,w₁,⟨E₁,s₁,hR₁,hq⟩,.pass (x:=.inLoop c) rfl (fun _ _=>.inl (by simp)) harr⟩
   |ret=>exact⟨_,a₁,w₁,⟨E₁,s₁,hR₁,hq⟩,.pass (x:=.inLoop c) rfl (fun _ _=>.inl (by simp)) harr⟩
   |panic ch=>exact⟨_,a₁,w₁,⟨E₁,s₁,hR₁,hq⟩,.pass (x:=.inLoop c) rfl (fun _ _=>.inl (by simp)) harr⟩
   |outgrown=>exact⟨_,a₁,w₁,⟨E₁,s₁,hR₁,hq⟩,.pass (x:=.inLoop c) rfl (fun _ _=>.inl (by simp)) harr⟩
 obtain⟨E',hR'⟩:=h0 cx E a w hR
 obtain⟨e,a',w',hq,harr⟩:=key _ x0 rfl i0 E' a w hR'
 exact⟨e,a',w',hq,.of_steps (.one step_loop) harr⟩
end
end Go.AM
namespace Go.AM
open Go.RowKit
class TyU (P:Program) (t:TypeId) (d:outParam TypeDesc):Prop where
 h:P.underlying t=some d
class TyI (P:Program) (t:TypeId) (z:outParam Value) (n:outParam Nat) (b:outParam Nat):Prop where
 h:(P.info? t).map (fun i=>(i.zero,i.size,i.bytes))=some (some z,n,b)
class TySc (P:Program) (t:TypeId):Prop where
 h:∀w,(isAgg t).run P w= .ok false w
 n:∃i,P.info? t=some i∧i.size=1
class TyAg (P:Program) (t:TypeId) (n:outParam Nat):Prop where
 h:∀w,(isAgg t).run P w= .ok true w
 n:∃i,P.info? t=some i∧i.size=n
class TySl (P:Program) (t:TypeId) (e:outParam TypeId) (sz:outParam Nat) (by_:outParam Nat):Prop where
 u:P.underlying t=some (.slice e)
 i:∃i z,P.info? e=some i∧i.size=sz∧i.bytes=by_∧i.zero=some z∧z.cells.size=sz
 p:0<sz
class TyF (P:Program) (t:TypeId) (f:Nat) (off:outParam Nat) (ft:outParam TypeId):Prop where
 h:∃fs fd,P.underlying t=some (.struct fs)∧fs[f]?=some fd∧fd.offset=off∧fd.type=ft∧∃i,P.info? ft=some i∧i.size≠0
class TyZ (P:Program) (t:TypeId) (zs:outParam (List C)):Prop where
 h:∃i z,P.info? t=some i∧i.zero=some z∧z.cells.toList.map vm=zs
theorem ez {P:Program} {t:TypeId} {i:TypeInfo} (h:P.info? t=some i) (w:World):(sizeOf t).run P w= .ok i.size w:=by
 simp[sizeOf,typeInfo,h]
section
variable {P:Program} {d:Option Tmp} {ty:TypeId} {ps:String} {af:Array Edge} {gd:Option (Nat×Bool)} {x y z:Operand}
theorem Im {t:T}:AWN P ⟨d,.move x,ty,ps,af,gd⟩ [(x,t)] [] t []:=
 b7 fun E a w hn _=>⟨a.eval x,by simp[execOp],hn x t (.head _)⟩
theorem AX {t:T}:AWN P ⟨d,.assign x,ty,ps,af,gd⟩ [(x,t)] [] t []:=
 b7 fun E a w hn _=>⟨a.eval x,by simp[execOp],hn x t (.head _)⟩
theorem gB {E:Env} {w:World} {g:Bool} {k:IntKind} {n:Int} {u:Value} (h:cvT E w (.v (.c (.d g (.i k n)))) u):u= .int k n:=by simpa [cvT,cvV,cvC,rdD] using h
theorem qS {E:Env} {w:World} {g:Bool} {b:Bool} {u:Value} (h:cvT E w (.v (.c (.d g (.b b)))) u):u= .bool b:=by simpa [cvT,cvV,cvC,rdD] using h
theorem Am {E:Env} {w:World} {g:Bool} {s:ByteArray} {u:Value} (h:cvT E w (.v (.c (.d g (.str s)))) u):u= .string s:=by simpa [cvT,cvV,cvC,rdD] using h
theorem GH {g:Bool} {t:T}:AWN P ⟨d,.pick x y z,ty,ps,af,gd⟩ [(x,.v (.c (.d g (.b true)))),(y,t)] [] t []:=
 b7 fun E a w hn _=>⟨a.eval y,by
  have h:=qS (hn x _ (.head _))
  simp[execOp,asBool,h],hn y t (.tail _ (.head _))⟩
theorem EA {g:Bool} {t:T}:AWN P ⟨d,.pick x y z,ty,ps,af,gd⟩ [(x,.v (.c (.d g (.b false)))),(z,t)] [] t []:=
 b7 fun E a w hn _=>⟨a.eval z,by
  have h:=qS (hn x _ (.head _))
  simp[execOp,asBool,h],hn z t (.tail _ (.head _))⟩
@[irreducible] def ltB (a b:Int):Bool:=decide (a<b)
@[irreducible] def leB (a b:Int):Bool:=decide (a≤b)
@[irreducible] def eqB (a b:Int):Bool:=decide (a=b)
@[irreducible] def strB (a b:ByteArray):Bool:=a.toList==b.toList
@[simp] theorem ltB_t {a b:Int}:ltB a b=true↔a<b:=by simp[ltB]
@[simp] theorem ltB_f {a b:Int}:ltB a b=false↔b≤a:=by simp[ltB]
@[simp] theorem leB_t {a b:Int}:leB a b=true↔a≤b:=by simp[leB]
@[simp] theorem leB_f {a b:Int}:leB a b=false↔b<a:=by simp[leB]
@[simp] theorem eqB_t {a b:Int}:eqB a b=true↔a=b:=by simp[eqB]
@[simp] theorem eqB_f {a b:Int}:eqB a b=false↔a≠b:=by simp[eqB]
theorem I4 {a b:ByteArray} (h:a.toList=b.toList):a=b:=by
 have:=congrArg List.toArray h
 simp only[ByteArray.toList_eq,Array.toArray_toList] at this
 exact ByteArray.ext this
@[simp] theorem strB_t {a b:ByteArray}:strB a b=true↔a=b:=by simp[strB];exact⟨I4,fun h=>by rw[h]⟩
@[simp] theorem strB_f {a b:ByteArray}:strB a b=false↔a≠b:=by
 rw[←Bool.not_eq_true,strB_t]
theorem R7 (a b:Int):decide (a<b)=ltB a b:=by simp[ltB]
theorem R4 (a b:Int):decide (a≤b)=leB a b:=by simp[leB]
theorem RI (a b:Int):decide (a=b)=eqB a b:=by simp[eqB]
theorem Jo (a b:Int):(a==b)=eqB a b:=by rw[←RI];rfl
def Ns (op:BinOp) (k:IntKind) (a b:Int):Option D:=
 match op with
 | .add=>some (.i k (k.wrap (a+b)))
 | .sub=>some (.i k (k.wrap (a-b)))
 | .mul=>some (.i k (k.wrap (a*b)))
 | .eql=>some (.b (eqB a b))
 | .neq=>some (.b (!eqB a b))
 | .lss=>some (.b (ltB a b))
 | .leq=>some (.b (leB a b))
 | .gtr=>some (.b (ltB b a))
 | .geq=>some (.b (leB b a))
 |_=>none
theorem n_int {op:BinOp} {t t':TypeId} {g g':Bool} {k:IntKind} {a b:Int} {r:D} (h:Ns op k a b=some r):
 AWN P ⟨d,.binOp op t x y t',ty,ps,af,gd⟩ [(x,.v (.c (.d g (.i k a)))),(y,.v (.c (.d g' (.i k b))))] [] (.v (.c (.d false r))) []:=
 b7 fun E ac w hn _=>by
  have h1:=gB (hn x _ (.head _))
  have h2:=gB (hn y _ (.tail _ (.head _)))
  cases op<;>simp only[Ns,Option.some.injEq,reduceCtorEq] at h<;>subst h<;>
   exact⟨_,by simp[execOp,h1,h2,eqGuard,binOp,Op.intArith,Op.intCmp];rfl,by simp[cvT,cvV,cvC,rdD,bne,Jo,R7,R4]⟩
theorem n_rem {t t':TypeId} {g g':Bool} {k:IntKind} {a b:Int} (h:b≠0):
 AWN P ⟨d,.binOp .rem t x y t',ty,ps,af,gd⟩ [(x,.v (.c (.d g (.i k a)))),(y,.v (.c (.d g' (.i k b))))] [] (.v (.c (.d false (.i k (a.tmod b))))) []:=
 b7 fun E ac w hn _=>by
  have h1:=gB (hn x _ (.head _))
  have h2:=gB (hn y _ (.tail _ (.head _)))
  exact⟨_,by simp[execOp,h1,h2,eqGuard,binOp,Op.intDiv,h];rfl,by simp[cvT,cvV,cvC,rdD]⟩
theorem NO {t t':TypeId} {g g':Bool} {a b:ByteArray}:
 AWN P ⟨d,.binOp .eql t x y t',ty,ps,af,gd⟩ [(x,.v (.c (.d g (.str a)))),(y,.v (.c (.d g' (.str b))))] [] (.v (.c (.d false (.b (strB a b))))) []:=
 b7 fun E ac w hn _=>by
  have h1:=Am (hn x _ (.head _))
  have h2:=Am (hn y _ (.tail _ (.head _)))
  exact⟨_,by simp[execOp,h1,h2,eqGuard,binOp,Op.stringOp];rfl,by simp[cvT,cvV,cvC,rdD,strB]⟩
theorem NR {t t':TypeId} {g g':Bool} {a b:ByteArray}:
 AWN P ⟨d,.binOp .neq t x y t',ty,ps,af,gd⟩ [(x,.v (.c (.d g (.str a)))),(y,.v (.c (.d g' (.str b))))] [] (.v (.c (.d false (.b (!strB a b))))) []:=
 b7 fun E ac w hn _=>by
  have h1:=Am (hn x _ (.head _))
  have h2:=Am (hn y _ (.tail _ (.head _)))
  exact⟨_,by simp[execOp,h1,h2,eqGuard,binOp,Op.stringOp];rfl,by simp[cvT,cvV,cvC,rdD,strB]⟩
theorem n_not {t:TypeId} {g:Bool} {b:Bool}:AWN P ⟨d,.unOp .not t x,ty,ps,af,gd⟩ [(x,.v (.c (.d g (.b b))))] [] (.v (.c (.d false (.b (!b))))) []:=
 b7 fun E ac w hn _=>by
  have h1:=qS (hn x _ (.head _))
  exact⟨_,by simp[execOp,h1,Op.unary];rfl,by simp[cvT,cvV,cvC,rdD]⟩
theorem n_neg {t:TypeId} {g:Bool} {k:IntKind} {n:Int}:AWN P ⟨d,.unOp .neg t x,ty,ps,af,gd⟩ [(x,.v (.c (.d g (.i k n))))] [] (.v (.c (.d false (.i k (k.wrap (0-n)))))) []:=
 b7 fun E ac w hn _=>by
  have h1:=gB (hn x _ (.head _))
  exact⟨_,by simp[execOp,h1,Op.unary,Op.intArith];rfl,by simp[cvT,cvV,cvC,rdD]⟩
theorem Se {t t':TypeId} {ds:TypeDesc} {g:Bool} {k k':IntKind} {n:Int} [hs:TyU P t ds] [hd:TyU P t' (.int k')]:
 AWN P ⟨d,.convert t t' x,ty,ps,af,gd⟩ [(x,.v (.c (.d g (.i k n))))] [] (.v (.c (.d false (.i k' (k'.wrap n))))) []:=
 b7 fun E ac w hn _=>by
  have h1:=gB (hn x _ (.head _))
  refine⟨.int k' (k'.wrap n),?_,by simp[cvT,cvV,cvC,rdD]⟩
  simp only[execOp,h1,convert]
  simp[underlying,hs.h,hd.h,Conv.intToInt]
theorem Lm {ts:List V} {i:Nat} {v:V} (h:ts[i]?=some v):AWN P ⟨d,.extract x i,ty,ps,af,gd⟩ [(x,.tup ts)] [] (.v v) []:=
 b7 fun E ac w hn _=>by
  obtain⟨arr,h1,h2⟩:=hn x _ (.head _)
  have key:∀(ts:List V) (us:List Value) (i:Nat),VV E w ts us→ts[i]?=some v→∃u,us[i]?=some u∧cvV E w v u:=by
   intro ts
   induction ts with
   |nil=>intro us i h9 hi;simp at hi
   |cons t ts ih=>
    intro us i h9 hi
    cases us with
    |nil=>exact h9.elim
    |cons u us=>
     cases i with
     |zero=>simp at hi;subst hi;exact⟨u,rfl,h9.1⟩
     |succ i=>exact ih us i h9.2 (by simpa using hi)
  obtain⟨u,hu,hv⟩:=key ts arr.toList i h2 h
  exact⟨u,by simp[execOp,h1,Instr.extract,show arr[i]?=some u by simpa using hu],hv⟩
theorem Ez {o k:Nat}:AWN P ⟨d,.nilCheck x,ty,ps,af,gd⟩ [(x,.v (.c (.p o k)))] [] (.v (.c (.p o k))) []:=
 b7 fun E ac w hn _=>by
  have h:=hn x _ (.head _)
  obtain⟨b,c,hr,hu⟩:=h
  exact⟨.pointer (some ⟨b,k,none⟩),by simp[execOp,hu],b,c,hr,rfl⟩
theorem Ql {t:TypeId} {o n e sz by_:Nat} [ht:TySl P t e sz by_]:AWN P ⟨d,.call ⟨.builtin .len,#[x],#[t]⟩,ty,ps,af,gd⟩ [(x,.v (.c (.w o n)))] [] (tI n) []:=
 b7 fun E ac w hn _=>by
  obtain⟨b,c,hr,hu⟩:=hn x _ (.head _)
  exact⟨_,by simp[execOp,resolve,invoke,builtin,hu,Builtin.len_,underlying,ht.u,goInt];rfl,by simp[cvT,cvV,cvC,rdD]⟩
theorem Qk {t:TypeId} {o z off n e sz by_:Nat} [ht:TySl P t e sz by_]:AWN P ⟨d,.call ⟨.builtin .len,#[x],#[t]⟩,ty,ps,af,gd⟩ [(x,.v (.c (.s o z off n)))] [] (tI n) []:=
 b7 fun E ac w hn _=>by
  obtain⟨A,c,b,k,hr,hu,_⟩:=hn x _ (.head _)
  exact⟨_,by simp[execOp,resolve,invoke,builtin,hu,Builtin.len_,underlying,ht.u,goInt];rfl,by simp[cvT,cvV,cvC,rdD]⟩
theorem Qj {t:TypeId} {g:Bool} {xs:List (List D)} {e sz by_:Nat} [ht:TySl P t e sz by_]:AWN P ⟨d,.call ⟨.builtin .len,#[x],#[t]⟩,ty,ps,af,gd⟩ [(x,.v (.c (.d g (.l xs))))] [] (tI xs.length) []:=
 b7 fun E ac w hn _=>by
  have h:=hn x _ (.head _)
  simp only[cvT,cvV,cvC,rdD] at h
  obtain⟨A,c,hu,_⟩:=h
  exact⟨_,by simp[execOp,resolve,invoke,builtin,hu,Builtin.len_,underlying,ht.u,goInt];rfl,by simp[cvT,cvV,cvC,rdD]⟩
theorem Lu {t:TypeId} {e sz by_:Nat} [ht:TySl P t e sz by_]:AWN P ⟨d,.call ⟨.builtin .len,#[x],#[t]⟩,ty,ps,af,gd⟩ [(x,.v (.c .nil))] [] (tI 0) []:=
 b7 fun E ac w hn _=>by
  have hu:ac.eval x= .slice none 0 0:=hn x _ (.head _)
  exact⟨_,by simp[execOp,resolve,invoke,builtin,hu,Builtin.len_,underlying,ht.u,goInt];rfl,by simp[cvT,cvV,cvC,rdD]⟩
theorem Lv {t:TypeId} {g:Bool} {s:ByteArray} [ht:TyU P t .string]:AWN P ⟨d,.call ⟨.builtin .len,#[x],#[t]⟩,ty,ps,af,gd⟩ [(x,.v (.c (.d g (.str s))))] [] (tI s.size) []:=
 b7 fun E ac w hn _=>by
  have hu:=Am (hn x _ (.head _))
  exact⟨_,by simp[execOp,resolve,invoke,builtin,hu,Builtin.len_,underlying,ht.h,goInt];rfl,by simp[cvT,cvV,cvC,rdD]⟩
theorem sH (b k j:Nat):(⟨b,k,none⟩:Addr).add j=⟨b,k+j,none⟩:=by
 unfold Addr.add;split
 ·rename_i h;subst h;rfl
 ·rfl
theorem o3 {t:TypeId} {f off ft:Nat} [h:TyF P t f off ft] (b k:Nat) (w:World):(Instr.fieldAt t (.pointer (some ⟨b,k,none⟩)) f).run P w= .ok (.pointer (some ⟨b,k+off,none⟩)) w:=by
 obtain⟨fs,fd,h1,h2,rfl,rfl,i,h3,h4⟩:=h.h
 simp[Instr.fieldAt,underlying,h1,h2,Instr.sureAddr,fieldPlace,ez h3,h4,sH]
theorem Lp {t:TypeId} {f off ft:Nat} {o k:Nat} [h:TyF P t f off ft]:AWN P ⟨d,.fieldAddr t x f,ty,ps,af,gd⟩ [(x,.v (.c (.p o k)))] [] (.v (.c (.p o (k+off)))) []:=
 b7 fun E ac w hn _=>by
  obtain⟨b,c,hr,hu⟩:=hn x _ (.head _)
  exact⟨.pointer (some ⟨b,k+off,none⟩),by simp[execOp,hu,o3],b,c,hr,rfl⟩
theorem Ln {t:TypeId} {f off ft:Nat} {o sz i j:Nat} [h:TyF P t f off ft]:AWN P ⟨d,.fieldAddr t x f,ty,ps,af,gd⟩ [(x,.v (.c (.e o sz i j)))] [] (.v (.c (.e o sz i (j+off)))) []:=
 b7 fun E ac w hn _=>by
  obtain⟨b,c,hr,hu⟩:=hn x _ (.head _)
  exact⟨_,by simp[execOp,hu,o3];rfl,b,c,hr,by rw[TN]⟩
theorem Lq {t:TypeId} {f off ft:Nat} {g:Bool} {e:List D} {j:Nat} [h:TyF P t f off ft]:AWN P ⟨d,.fieldAddr t x f,ty,ps,af,gd⟩ [(x,.v (.c (.q g e j)))] [] (.v (.c (.q g e (j+off)))) []:=
 b7 fun E ac w hn _=>by
  obtain⟨b,k,hu,hr⟩:=hn x _ (.head _)
  exact⟨_,by simp[execOp,hu,o3];rfl,b,k,by rw[TN],hr⟩
theorem s7 {t:TypeId} {e sz by_:Nat} [ht:TySl P t e sz by_] {kd:IntKind} {b k len cap:Nat} {i:Int} (h0:0≤i) (h1:i<len) (w:World):
 (Instr.indexAt t (.slice (some ⟨b,k,none⟩) len cap) (.int kd i)).run P w= .ok (.pointer (some ⟨b,k+i.toNat*sz,none⟩)) w:=by
 obtain⟨ii,z,h2,h3,_⟩:=ht.i
 have:=ez h2 w
 simp[Instr.indexAt,asIntOf,underlying,ht.u,h0,h1,this,h3,sH]
theorem CZ {t:TypeId} {e sz by_:Nat} {g:Bool} {kd:IntKind} {o n:Nat} {i:Int} [ht:TySl P t e sz by_] (h0:0≤i) (h1:i<n):
 AWN P ⟨d,.indexAddr t x y,ty,ps,af,gd⟩ [(x,.v (.c (.w o n))),(y,.v (.c (.d g (.i kd i))))] [] (.v (.c (.e o sz i.toNat 0))) []:=
 b7 fun E ac w hn _=>by
  obtain⟨b,c,hr,hu⟩:=hn x _ (.head _)
  have h2:=gB (hn y _ (.tail _ (.head _)))
  exact⟨_,by simp[execOp,hu,h2,s7 h0 h1];rfl,b,c,hr,by simp⟩
theorem Lt {t:TypeId} {e sz by_:Nat} {g:Bool} {kd:IntKind} {o off n:Nat} {i:Int} [ht:TySl P t e sz by_] (h0:0≤i) (h1:i<n):
 AWN P ⟨d,.indexAddr t x y,ty,ps,af,gd⟩ [(x,.v (.c (.s o sz off n))),(y,.v (.c (.d g (.i kd i))))] [] (.v (.c (.e o sz (off+i.toNat) 0))) []:=
 b7 fun E ac w hn _=>by
  obtain⟨A,c,b,k,hr,hu,_,hA⟩:=hn x _ (.head _)
  have h2:=gB (hn y _ (.tail _ (.head _)))
  obtain rfl:A=some ⟨b,off*sz,none⟩:=hA.resolve_left (by omega)
  exact⟨_,by simp[execOp,hu,h2,s7 h0 h1];rfl,b,k,hr,by simp[TG]⟩
theorem Ls {t:TypeId} {e sz by_:Nat} {g g':Bool} {kd:IntKind} {xs:List (List D)} {i:Int} {el:List D} [ht:TySl P t e sz by_] (h0:0≤i) (he:xs[i.toNat]?=some el) (hs:∀e∈xs,e.length=sz):
 AWN P ⟨d,.indexAddr t x y,ty,ps,af,gd⟩ [(x,.v (.c (.d g (.l xs)))),(y,.v (.c (.d g' (.i kd i))))] [] (.v (.c (.q g el 0))) []:=
 b7 fun E ac w hn _=>by
  have h:=hn x _ (.head _)
  simp only[cvT,cvV,cvC,rdD] at h
  obtain⟨A,c,hu,_,h⟩:=h
  have h2:=gB (hn y _ (.tail _ (.head _)))
  have hl:i.toNat<xs.length:=(Tm.1 he).1
  rcases h with h|⟨b,off,rfl,hb,h⟩
  ·subst h;simp at he
  ·exact⟨_,by simp[execOp,hu,h2,s7 (kd:=kd) h0 (by omega:i<((xs.length:Nat):Int))];rfl,b,off+i.toNat*sz,by simp,hb,nr h hs he⟩
def ldC (g:Bool):D→C
 | .l xs=>.d g (.l xs)
 |x=>.d false x
theorem AN {E:Env} {w:World} {g:Bool} {x:D} {u:Value} (h:rdD w (E.H g) x u):cvC E w (ldC g x) u:=by
 cases x<;>simp only[ldC,cvC]<;>first|exact h|(simp only[rdD] at h ⊢;exact h)
theorem jY {t:TypeId} [h:TySc P t] {b k:Nat} {u:Value} {w:World} (hc:w.cell? ⟨b,k,none⟩=some u):(Instr.loadAt t (.pointer (some ⟨b,k,none⟩))).run P w= .ok u w:=by
 simp[Instr.loadAt,Instr.sureAddr,loadVar,h.h,load,Sem.run,hc]
theorem it {b k:Nat} {w:World}:∀(us:List Value) (i:Nat) (acc:Array Value),(∀j u,us[j]?=some u→w.cell? ⟨b,k+(i+j),none⟩=some u)→
 (loadCellsFrom ⟨b,k,none⟩ i us.length acc).run P w= .ok (acc++us.toArray) w
 |[],i,acc,_=>by simp[loadCellsFrom]
 |u::us,i,acc,h=>by
  have h0:=h 0 u rfl
  have ih:=it us (i+1) (acc.push u) (fun j v hj=>by have:=h (j+1) v (by simpa using hj);rwa [show i+1+j=i+(j+1) from by omega])
  simp only[List.length_cons,loadCellsFrom,load,sH]
  simp[Sem.run,show w.cell? ⟨b,k+i,none⟩=some u by simpa using h0,ih]
theorem om {t:TypeId} {n:Nat} [h:TyAg P t n] {b k:Nat} {us:List Value} {w:World} (hl:us.length=n) (hc:∀j u,us[j]?=some u→w.cell? ⟨b,k+j,none⟩=some u):
 (Instr.loadAt t (.pointer (some ⟨b,k,none⟩))).run P w= .ok (.agg us.toArray) w:=by
 obtain⟨i,hi,hn⟩:=h.n
 have:=it (P:=P) (b:=b) (k:=k) (w:=w) us 0 #[] (fun j u hj=>by simpa using hc j u hj)
 simp[Instr.loadAt,Instr.sureAddr,loadVar,h.h,ez hi,hn,←hl,loadCells,this]
theorem CB {E:Env} {w:World}:∀{cs:List C} {us:List Value} {k:Nat} {c:C},CV E w cs us→cs[k]?=some c→∃u,us[k]?=some u∧cvC E w c u
 |c::cs,u::us,0,c',h,hk=>by simp at hk;subst hk;exact⟨u,rfl,h.1⟩
 |c::cs,u::us,k+1,c',h,hk=>by
  obtain⟨v,hv,h'⟩:=CB (k:=k) h.2 (by simpa using hk)
  exact⟨v,by simpa using hv,h'⟩
 |[],_,_,_,_,hk=>by simp at hk
 |_::_,[],_,_,h,_=>h.elim
theorem gz {E:Env} {w:World}:∀{cs:List C} {us:List Value},CV E w cs us→us.length=cs.length
 |[],[],_=>rfl
 |c::cs,u::us,h=>by simp[gz h.2]
 |[],_::_,h=>h.elim
 |_::_,[],h=>h.elim
theorem DF {E:Env} {w:World}:∀{cs:List C} {us:List Value} (k:Nat),CV E w cs us→CV E w (cs.drop k) (us.drop k)
 |cs,us,0,h=>by simpa using h
 |[],[],k+1,h=>by simpa using h
 |c::cs,u::us,k+1,h=>by simpa using DF k h.2
 |[],_::_,_+1,h=>h.elim
 |_::_,[],_+1,h=>h.elim
theorem DI {E:Env} {w:World}:∀{cs:List C} {us:List Value} (k:Nat),CV E w cs us→CV E w (cs.take k) (us.take k)
 |cs,us,0,h=>by simp[CV]
 |[],[],k+1,h=>by simp[CV]
 |c::cs,u::us,k+1,h=>by rw[TI,TI];exact⟨h.1,DI k h.2⟩
 |[],_::_,_+1,h=>h.elim
 |_::_,[],_+1,h=>h.elim
theorem et {w:World} {b:Nat} {arr:Array Value} {ty':TypeId} {k:Nat} (h:w.heap[b]?=some (.cells arr ty' (0,0))):w.cell? ⟨b,k,none⟩=arr[k]?:=by
 simp[World.cell?,h]
theorem NL {t:TypeId} {o k:Nat} {vt:TypeId} {cs:List C} {c:C} [ht:TySc P t] (hc:cs[k]?=some c):
 AWN P ⟨d,.load t x,ty,ps,af,gd⟩ [(x,.v (.c (.p o k)))] [(o,.var vt cs)] (.v (.c c)) []:=
 b7 fun E ac w hn hb=>by
  obtain⟨b,c',hr,hu⟩:=hn x _ (.head _)
  obtain⟨b',c'',arr,hr',hh,hcv,_⟩:=hb o _ (.head _)
  rw[hr] at hr';cases hr'
  obtain⟨u,hu',hcu⟩:=CB hcv hc
  exact⟨u,by simp[execOp,hu,jY (P:=P) (show w.cell? ⟨b,k,none⟩=some u by rw[et hh];simpa using hu')],hcu⟩
theorem Ew {t:TypeId} {n:Nat} {o k:Nat} {vt:TypeId} {cs:List C} [ht:TyAg P t n] (hk:k+n≤cs.length):
 AWN P ⟨d,.load t x,ty,ps,af,gd⟩ [(x,.v (.c (.p o k)))] [(o,.var vt cs)] (.v (.agg ((cs.drop k).take n))) []:=
 b7 fun E ac w hn hb=>by
  obtain⟨b,c',hr,hu⟩:=hn x _ (.head _)
  obtain⟨b',c'',arr,hr',hh,hcv,_⟩:=hb o _ (.head _)
  rw[hr] at hr';cases hr'
  have hl:=gz hcv
  refine⟨.agg ((arr.toList.drop k).take n).toArray,by
   simp[execOp,hu,om (P:=P) (t:=t) (n:=n) (b:=b) (k:=k) (us:=(arr.toList.drop k).take n) (w:=w) (by simp[hl] at*;omega) (fun j u hj=>by
    rw[et hh]
    rw[TB] at hj
    split at hj
    ·simpa [TJ] using hj
    ·cases hj)],_,rfl,DI n (DF k hcv)⟩
theorem NM {t:TypeId} {g:Bool} {e:List D} {j:Nat} {xd:D} [ht:TySc P t] (hc:e[j]?=some xd):AWN P ⟨d,.load t x,ty,ps,af,gd⟩ [(x,.v (.c (.q g e j)))] [] (.v (.c (ldC g xd))) []:=
 b7 fun E ac w hn hb=>by
  obtain⟨b,k,hu,hF,hr⟩:=hn x _ (.head _)
  obtain⟨u,hc,hd⟩:=kF hr hc
  exact⟨u,by simp[execOp,hu,jY (P:=P) hc],AN hd⟩
theorem w6 {w:World} {F:Nat→Prop}:∀{e:List D} {b k:Nat},rdL w F e b k→∃us:List Value,us.length=e.length∧(∀(j:Nat) (u:Value),us[j]?=some u→w.cell? ⟨b,k+j,none⟩=some u)∧∀(j:Nat) (xd:D),e[j]?=some xd→∃u,us[j]?=some u∧rdD w F xd u
 |[],b,k,_=>⟨[],rfl,by simp,by simp⟩
 |x::e,b,k,h=>by
  rw[rdL] at h
  obtain⟨⟨u,hc,hd⟩,h⟩:=h
  obtain⟨us,h1,h2,h3⟩:=w6 h
  refine⟨u::us,by simp[h1],fun j v hj=>?_,fun j xd hj=>?_⟩
  ·cases j with
   |zero=>simp at hj;subst hj;exact hc
   |succ j=>have:=h2 j v (by simpa using hj);rwa [show k+1+j=k+(j+1) from by omega] at this
  ·cases j with
   |zero=>simp at hj;subst hj;exact⟨u,rfl,hd⟩
   |succ j=>obtain⟨v,h4,h5⟩:=h3 j xd (by simpa using hj);exact⟨v,by simpa using h4,h5⟩
theorem xH {E:Env} {w:World} {g:Bool}:∀{e:List D} {us:List Value},us.length=e.length→(∀(j:Nat) (xd:D),e[j]?=some xd→∃u,us[j]?=some u∧rdD w (E.H g) xd u)→CV E w (e.map (ldC g)) us
 |[],[],_,_=>trivial
 |x::e,u::us,hl,h=>by
  obtain⟨v,h1,h2⟩:=h 0 x rfl
  simp at h1;subst h1
  exact⟨AN h2,xH (by simpa using hl) fun j xd hj=>by
   obtain⟨v,h3,h4⟩:=h (j+1) xd (by simpa using hj)
   exact⟨v,by simpa using h3,h4⟩⟩
 |[],_::_,hl,_=>by simp at hl
 |_::_,[],hl,_=>by simp at hl
theorem GZ {w:World} {F:Nat→Prop} {e:List D} {b k:Nat} (h:rdL w F e b k) (j n:Nat):rdL w F ((e.drop j).take n) b (k+j):=
 lJ fun i xd hi=>by
  rw[TB] at hi
  split at hi
  ·rw[TJ] at hi
   have:=kF h hi
   rwa [←TN] at this
  ·cases hi
theorem Ex {t:TypeId} {n:Nat} {g:Bool} {e:List D} {j:Nat} [ht:TyAg P t n] (hj:j+n≤e.length):
 AWN P ⟨d,.load t x,ty,ps,af,gd⟩ [(x,.v (.c (.q g e j)))] [] (.v (.agg (((e.drop j).take n).map (ldC g)))) []:=
 b7 fun E ac w hn hb=>by
  obtain⟨b,k,hu,hF,hr⟩:=hn x _ (.head _)
  obtain⟨us,h1,h2,h3⟩:=w6 (GZ hr j n)
  exact⟨.agg us.toArray,by simp[execOp,hu,om (P:=P) (t:=t) (n:=n) (us:=us) (by rw[h1];simp;omega) h2],_,rfl,xH h1 h3⟩
theorem NK {t:TypeId} {o sz i j:Nat} {rt:TypeId} {els:List (List D)} {g m:Bool} {el:List D} {xd:D} [ht:TySc P t] (he:els[i]?=some el) (hc:el[j]?=some xd):
 AWN P ⟨d,.load t x,ty,ps,af,gd⟩ [(x,.v (.c (.e o sz i j)))] [(o,.row rt sz els g m)] (.v (.c (ldC g xd))) []:=
 b7 fun E ac w hn hb=>by
  obtain⟨b,c',hr,hu⟩:=hn x _ (.head _)
  obtain⟨b',c'',arr,hr',hh,h1,h2,h3,h4,h5,_⟩:=hb o _ (.head _)
  rw[hr] at hr';cases hr'
  obtain⟨u,hc,hd⟩:=kF (nr h5 h4 he) hc
  exact⟨u,by simp[execOp,hu,jY (P:=P) (t:=t) (show w.cell? ⟨b,i*sz+j,none⟩=some u by simpa using hc)],AN hd⟩
theorem Ev {t:TypeId} {n:Nat} {o sz i j:Nat} {rt:TypeId} {els:List (List D)} {g m:Bool} {el:List D} [ht:TyAg P t n] (he:els[i]?=some el) (hj:j+n≤el.length):
 AWN P ⟨d,.load t x,ty,ps,af,gd⟩ [(x,.v (.c (.e o sz i j)))] [(o,.row rt sz els g m)] (.v (.agg (((el.drop j).take n).map (ldC g)))) []:=
 b7 fun E ac w hn hb=>by
  obtain⟨b,c',hr,hu⟩:=hn x _ (.head _)
  obtain⟨b',c'',arr,hr',hh,h1,h2,h3,h4,h5,_⟩:=hb o _ (.head _)
  rw[hr] at hr';cases hr'
  obtain⟨us,h6,h7,h8⟩:=w6 (GZ (nr h5 h4 he) j n)
  exact⟨.agg us.toArray,by simp[execOp,hu,om (P:=P) (t:=t) (n:=n) (b:=b) (k:=i*sz+j) (us:=us) (by rw[h6];simp;omega) (fun j' u hj'=>by have:=h7 j' u hj';simpa using this)],_,rfl,xH h6 h8⟩
theorem NI {t:TypeId} {f off ft:Nat} {cs:List C} {c:C} [h:TyF P t f off ft] [ht:TySc P ft] (hc:cs[off]?=some c):AWN P ⟨d,.field t x f,ty,ps,af,gd⟩ [(x,.v (.agg cs))] [] (.v (.c c)) []:=
 b7 fun E ac w hn hb=>by
  obtain⟨arr,hu,hcv⟩:=hn x _ (.head _)
  obtain⟨u,hu',hcu⟩:=CB hcv hc
  obtain⟨fs,fd,h1,h2,rfl,rfl,i,h3,h4⟩:=h.h
  exact⟨u,by simp[execOp,hu,Instr.field,underlying,h1,h2,asAgg,part,ht.h,show arr[fd.offset]?=some u by simpa using hu'],hcu⟩
theorem Eu {t:TypeId} {f off ft n:Nat} {cs:List C} [h:TyF P t f off ft] [ht:TyAg P ft n]:AWN P ⟨d,.field t x f,ty,ps,af,gd⟩ [(x,.v (.agg cs))] [] (.v (.agg ((cs.drop off).take n))) []:=
 b7 fun E ac w hn hb=>by
  obtain⟨arr,hu,hcv⟩:=hn x _ (.head _)
  obtain⟨fs,fd,h1,h2,rfl,rfl,i,h3,h4⟩:=h.h
  obtain⟨i',h5,h6⟩:=ht.n
  refine⟨.agg (arr.extract fd.offset (fd.offset+n)),by simp[execOp,hu,Instr.field,underlying,h1,h2,asAgg,part,ht.h,ez h5,h6],_,rfl,?_⟩
  have:=DI n (DF fd.offset hcv)
  rw[Array.toList_extract,List.extract_eq_take_drop]
  simpa using this
end
end Go.AM
namespace Go.AM
open Go.RowKit
def tkO {α:Type}:Nat→List α→Option (List α)
 |0,_=>some []
 |n+1,x::xs=>match tkO n xs with|some r=>some (x::r)|none=>none
 |_+1,[]=>none
def drO {α:Type}:Nat→List α→Option (List α)
 |0,xs=>some xs
 |n+1,_::xs=>drO n xs
 |_+1,[]=>none
def wU {α:Type} (k n:Nat) (xs:List α):Option (List α):=match drO k xs with|some r=>tkO n r|none=>none
def qK {α:Type}:Nat→List α→List α→Option (List α)
 |0,[],cs=>some cs
 |0,n::ns,_::cs=>match qK 0 ns cs with|some r=>some (n::r)|none=>none
 |0,_::_,[]=>none
 |k+1,ns,c::cs=>match qK k ns cs with|some r=>some (c::r)|none=>none
 |_+1,_,[]=>none
theorem OV {α:Type}:∀{n:Nat} {xs r:List α},tkO n xs=some r→r=xs.take n∧n≤xs.length
 |0,xs,r,h=>by simp[tkO] at h;subst h;simp
 |n+1,[],r,h=>by simp[tkO] at h
 |n+1,x::xs,r,h=>by
  simp only[tkO] at h
  cases h1:tkO n xs with
  |none=>simp[h1] at h
  |some s=>simp[h1] at h;obtain⟨h2,h3⟩:=OV h1;subst h;subst h2;simp[h3]
theorem MS {α:Type}:∀{n:Nat} {xs r:List α},drO n xs=some r→r=xs.drop n∧n≤xs.length
 |0,xs,r,h=>by simp[drO] at h;subst h;simp
 |n+1,[],r,h=>by simp[drO] at h
 |n+1,x::xs,r,h=>by simp only[drO] at h;obtain⟨h2,h3⟩:=MS h;subst h2;simp[h3]
theorem wV {α:Type} {k n:Nat} {xs r:List α} (h:wU k n xs=some r):r=(xs.drop k).take n∧k+n≤xs.length:=by
 unfold wU at h
 cases h1:drO k xs with
 |none=>simp[h1] at h
 |some s=>
  simp[h1] at h
  obtain⟨h2,h3⟩:=MS h1
  obtain⟨h4,h5⟩:=OV h
  subst h2
  simp at h5
  exact⟨h4,by omega⟩
theorem pM {α:Type}:∀{k:Nat} {ns cs r:List α},qK k ns cs=some r→r=cs.take k++ns++cs.drop (k+ns.length)∧k+ns.length≤cs.length
 |0,[],cs,r,h=>by simp[qK] at h;subst h;simp
 |0,n::ns,[],r,h=>by simp[qK] at h
 |0,n::ns,c::cs,r,h=>by
  simp only[qK] at h
  cases h1:qK 0 ns cs with
  |none=>simp[h1] at h
  |some s=>simp[h1] at h;obtain⟨h2,h3⟩:=pM h1;subst h;subst h2;simp at h3;simp[h3]
 |k+1,ns,[],r,h=>by cases ns<;>simp[qK] at h
 |k+1,ns,c::cs,r,h=>by
  have h':(match qK k ns cs with|some r=>some (c::r)|none=>none)=some r:=by cases ns<;>simpa [qK] using h
  cases h1:qK k ns cs with
  |none=>simp[h1] at h'
  |some s=>
   simp[h1] at h';obtain⟨h2,h3⟩:=pM h1;subst h';subst h2
   refine⟨by simp[Nat.add_right_comm],by simp;omega⟩
theorem Hz {α:Type} {k:Nat} {ns cs r:List α} (h:qK k ns cs=some r) (i:Nat):r[i]?=if k≤i∧i<k+ns.length then ns[i-k]? else cs[i]?:=by
 obtain⟨h1,h2⟩:=pM h
 subst h1
 have hk:(cs.take k).length=k:=by simp;omega
 by_cases hi:i<k
 ·rw[if_neg (by omega),TL,Tu (by omega),TB,if_pos hi]
 ·rw[TL,Tz (by omega),hk]
  by_cases hj:i<k+ns.length
  ·rw[if_pos ⟨by omega,hj⟩,Tu (by omega)]
  ·rw[if_neg (by omega),Tz (by omega),TJ]
   congr 1
   omega
theorem Q1 {E:Env} {w:World}:∀{cs:List C} {us:List Value},us.length=cs.length→(∀(k:Nat) (c:C),cs[k]?=some c→∃u,us[k]?=some u∧cvC E w c u)→CV E w cs us
 |[],[],_,_=>trivial
 |c::cs,u::us,hl,h=>by
  obtain⟨v,h1,h2⟩:=h 0 c rfl
  simp at h1;subst h1
  exact⟨h2,Q1 (by simpa using hl) fun k c' hk=>by
   obtain⟨v,h3,h4⟩:=h (k+1) c' (by simpa using hk)
   exact⟨v,by simpa using h3,h4⟩⟩
 |[],_::_,hl,_=>by simp at hl
 |_::_,[],hl,_=>by simp at hl
section
variable {P:Program} {N:Nat} {d:Option Tmp} {ty:TypeId} {ps:String} {af:Array Edge} {gd:Option (Nat×Bool)} {x y z:Operand}
theorem Ch {t:TypeId} {n:Nat} {o k:Nat} {vt:TypeId} {cs r:List C} [ht:TyAg P t n] (hk:wU k n cs=some r):
 AWN P ⟨d,.load t x,ty,ps,af,gd⟩ [(x,.v (.c (.p o k)))] [(o,.var vt cs)] (.v (.agg r)) []:=by
 obtain⟨h1,h2⟩:=wV hk
 subst h1
 exact Ew h2
def ldO (g:Bool):List D→Option (List C)
 |[]=>some []
 | .i k n::r=>match ldO g r with|some cs=>some (.d false (.i k n)::cs)|none=>none
 | .b x::r=>match ldO g r with|some cs=>some (.d false (.b x)::cs)|none=>none
 | .str s::r=>match ldO g r with|some cs=>some (.d false (.str s)::cs)|none=>none
 | .l xs::r=>match ldO g r with|some cs=>some (.d g (.l xs)::cs)|none=>none
 | .k A n c::r=>match ldO g r with|some cs=>some (.d false (.k A n c)::cs)|none=>none
theorem Ej {g:Bool}:∀{xs:List D} {cs:List C},ldO g xs=some cs→cs=xs.map (ldC g)
 |[],cs,h=>by simp[ldO] at h;subst h;rfl
 |x::xs,cs,h=>by
  cases h1:ldO g xs with
  |none=>cases x<;>simp[ldO,h1] at h
  |some r=>have:=Ej h1;subst this;cases x<;>simp[ldO,h1] at h<;>subst h<;>rfl
def Ek (g:Bool) (j n:Nat) (e:List D):Option (List C):=match wU j n e with|some r=>ldO g r|none=>none
theorem El {g:Bool} {j n:Nat} {e:List D} {cs:List C} (h:Ek g j n e=some cs):cs=((e.drop j).take n).map (ldC g)∧j+n≤e.length:=by
 unfold Ek at h
 cases h1:wU j n e with
 |none=>simp[h1] at h
 |some r=>simp[h1] at h;obtain⟨h2,h3⟩:=wV h1;subst h2;exact⟨Ej h,h3⟩
def ld1 (g:Bool) (j:Nat) (e:List D):Option C:=match Ek g j 1 e with|some [c]=>some c|_=>none
theorem NA {g:Bool} {j:Nat} {e:List D} {c:C} (h:ld1 g j e=some c):∃xd,e[j]?=some xd∧c=ldC g xd:=by
 unfold ld1 at h
 split at h
 ·rename_i c' h1
  simp at h;subst h
  obtain⟨h2,h3⟩:=El h1
  have hj:j<e.length:=by omega
  refine⟨e[j],v0 hj,?_⟩
  rw[List.drop_eq_getElem_cons hj,TI] at h2
  injection h2
 ·cases h
theorem Ci {t:TypeId} {n:Nat} {g:Bool} {e:List D} {j:Nat} {cs:List C} [ht:TyAg P t n] (hj:Ek g j n e=some cs):
 AWN P ⟨d,.load t x,ty,ps,af,gd⟩ [(x,.v (.c (.q g e j)))] [] (.v (.agg cs)) []:=by
 obtain⟨h1,h2⟩:=El hj
 subst h1
 exact Ex h2
theorem Ly {t:TypeId} {g:Bool} {e:List D} {j:Nat} {c:C} [ht:TySc P t] (hc:ld1 g j e=some c):AWN P ⟨d,.load t x,ty,ps,af,gd⟩ [(x,.v (.c (.q g e j)))] [] (.v (.c c)) []:=by
 obtain⟨xd,h1,rfl⟩:=NA hc
 exact NM h1
theorem C0 {t:TypeId} {o sz i j:Nat} {rt:TypeId} {els:List (List D)} {g m:Bool} {el:List D} {c:C} [ht:TySc P t] (he:els[i]?=some el) (hc:ld1 g j el=some c):
 AWN P ⟨d,.load t x,ty,ps,af,gd⟩ [(x,.v (.c (.e o sz i j)))] [(o,.row rt sz els g m)] (.v (.c c)) []:=by
 obtain⟨xd,h1,rfl⟩:=NA hc
 exact NK he h1
theorem u9 {t:TypeId} {n:Nat} {o sz i j:Nat} {rt:TypeId} {els:List (List D)} {g m:Bool} {el:List D} {cs:List C} [ht:TyAg P t n] (he:els[i]?=some el) (hj:Ek g j n el=some cs):
 AWN P ⟨d,.load t x,ty,ps,af,gd⟩ [(x,.v (.c (.e o sz i j)))] [(o,.row rt sz els g m)] (.v (.agg cs)) []:=by
 obtain⟨h1,h2⟩:=El hj
 subst h1
 exact Ev he h2
theorem Cf {t:TypeId} {f off ft n:Nat} {cs r:List C} [h:TyF P t f off ft] [ht:TyAg P ft n] (hr:wU off n cs=some r):AWN P ⟨d,.field t x f,ty,ps,af,gd⟩ [(x,.v (.agg cs))] [] (.v (.agg r)) []:=by
 obtain⟨h1,h2⟩:=wV hr
 subst h1
 exact Eu
def Env.new (E:Env) (l b c:Nat):Env:={E with r:=fun o=>if o=l then some (b,c) else E.r o}
theorem PS {cx:Cx} {E:Env} {w:World} (ok:cQ cx E w) {l:Nat} (hl:E.r l=none) (hv:rsv l=false) (o:Obj) (c:Nat):
 cQ cx (E.new l w.heap.size c) (w.alloc o)∧Ext E w (E.new l w.heap.size c) (w.alloc o):=by
 have hne:∀o' x,E.r o'=some x→o'≠l:=fun o' x h e=>by subst e;rw[hl] at h;cases h
 refine⟨⟨fun b hb=>?_,ok.gf,ok.gn,fun o' b c' h=>?_,fun o1 o2 b c1 c2 h1 h2=>?_,ok.os,ok.tape,ok.output,?_,fun b hb hW=>?_,fun o' x hx h=>?_,ok.ff,fun b h h'=>(ok.gc b h h').of_eq (Below.heap_alloc w o b (ok.fb b h)),ok.sf.grow rfl rfl (fun _ h=>.inl h) (fun o' b c' h=>?_) (by simp) (fun b hb=>Below.heap_alloc w o b hb)⟩,⟨fun o' x h=>?_,fun _ h=>h,fun _ h=>h,fun _ h=>.inl h,fun b hb=>Below.heap_alloc w o b hb,rfl,rfl,rfl⟩⟩
 ·have:=ok.fb b hb;simp;omega
 ·simp only[Env.new] at h
  split at h
  ·cases h;have:=ok.size;simp;omega
  ·obtain⟨h3,h4⟩:=ok.rb o' b c' h;exact⟨by simp;omega,h4⟩
 ·simp only[Env.new] at h1 h2
  split at h1<;>split at h2
  ·omega
  ·cases h1;have:=ok.rb o2 _ _ h2;omega
  ·cases h2;have:=ok.rb o1 _ _ h1;omega
  ·exact ok.inj o1 o2 b c1 c2 h1 h2
 ·have:=ok.size;simp;omega
 ·have:=ok.size;rw[Below.heap_alloc w o b (by omega)];exact ok.block b hb hW
 ·simp only[Env.new] at h
  split at h
  ·rename_i e;subst e;rw[nu hv] at hx;cases hx
  ·exact ok.pin o' x hx h
 ·simp only[Env.new] at h
  split at h
  ·cases h;exact .inr (Tt _)
  ·exact .inl ⟨o',c',h⟩
 ·simp only[Env.new];rw[if_neg (hne o' x h)];exact h
theorem D9 {cx:Cx} {E:Env} {w:World} (ok:cQ cx E w) {l:Nat} (hl:E.r l=none) (o:Obj) (c:Nat):Ext E w (E.new l w.heap.size c) (w.alloc o):=
 ⟨fun o' x h=>by
  have hne:o'≠l:=fun e=>by subst e;rw[hl] at h;cases h
  simp only[Env.new];rw[if_neg hne];exact h,fun _ h=>h,fun _ h=>h,fun _ h=>.inl h,fun b hb=>Below.heap_alloc w o b hb,rfl,rfl,rfl⟩
theorem va (E:Env) (l b c:Nat):(E.new l b c).r l=some (b,c):=by simp[Env.new]
theorem ot (w:World) (o:Obj):(w.alloc o).heap[w.heap.size]?=some o:=heap_alloc_new w o
theorem wh {o:Oper} {needs:List (Operand×T)} {nob:List (Nat×Ob)} {out:T} {l:Nat} {nb:Ob}
 (h:∀(cx:Cx) (E:Env) (a:Act) (w:World),cQ cx E w→(∀x t,(x,t)∈needs→cvT E w t (a.eval x))→(∀l ob,(l,ob)∈nob→cy E w l ob)→E.r l=none→
  ∃v ob c,(execOp a.eval o).run P w= .ok (.value v) (w.alloc ob)∧cvT (E.new l w.heap.size c) (w.alloc ob) out v∧cy (E.new l w.heap.size c) (w.alloc ob) l nb):AWN P o needs nob out [(l,nb)]:=by
 intro cx E a w ok hn hb hl
 obtain⟨v,ob,c,hr,hv,ho⟩:=h cx E a w ok hn hb (hl l nb (by simp)).1
 obtain⟨ok',ext⟩:=PS ok (hl l nb (by simp)).1 (hl l nb (by simp)).2 ob c
 unfold Oper.wp
 rw[hr]
 refine⟨v,_,rfl,ok',ext,hv,fun l' ob' hm=>?_,fun l' x hx=>?_⟩
 ·simp at hm;obtain⟨rfl,rfl⟩:=hm;exact ho
 ·simp only[Env.new] at hx
  split at hx
  ·rename_i e;subst e;exact .inr ⟨nb,by simp⟩
  ·exact .inl hx
theorem tg {cx:Cx} {E:Env} {w:World} (ok:cQ cx E w) (l c:Nat):¬(E.new l w.heap.size c).F w.heap.size:=fun h=>by have:=ok.fb _ h;omega
theorem Qg {t:TypeId} {zs:List C} {l:Nat} [hz:TyZ P t zs]:AWN P ⟨d,.alloc t,ty,ps,af,gd⟩ [] [] (.v (.c (.p l 0))) [(l,.var t zs)]:=
 wh fun cx E a w ok _ _ hl=>by
  obtain⟨i,z,h1,h2,h3⟩:=hz.h
  refine⟨.pointer (some ⟨w.heap.size,0,none⟩),.cells z.cells t,0,by simp[execOp,Instr.alloc,zeroValue,typeInfo,h1,h2,newVar,newRow],?_,?_⟩
  ·exact⟨_,_,va _ _ _ _,rfl⟩
  ·refine⟨_,_,z.cells,va _ _ _ _,ot _ _,?_,tg ok _ _⟩
   rw[←h3];exact qc _ _ _
theorem Ll {t:TypeId} {cs:List C} {l:Nat}:AWN P ⟨d,.box t x,ty,ps,af,gd⟩ [(x,.v (.agg cs))] [] (.v (.c (.p l 0))) [(l,.var t cs)]:=
 wh fun cx E a w ok hn _ hl=>by
  obtain⟨arr,hu,hcv⟩:=hn x _ (.head _)
  refine⟨.pointer (some ⟨w.heap.size,0,none⟩),.cells arr t,0,by simp[execOp,Instr.box,hu,newVar,newRow,Value.cells],⟨_,_,va _ _ _ _,rfl⟩,?_⟩
  exact⟨_,_,arr,va _ _ _ _,ot _ _,nV (.of_ext ok (D9 ok hl _ 0)) hcv,tg ok _ _⟩
def C.sto:C→Bool
 | .any=>false
 |_=>true
theorem I3 {E:Env} {w:World} {c:C} {u:Value} (hs:c.sto=true) (h:cvC E w c u):u.oneCell'=true∧u.cells= #[u]:=by
 cases c with
 |d g x=>exact⟨ro h,ye h⟩
 |w o n=>obtain⟨b,c,_,rfl⟩:=h;exact⟨rfl,rfl⟩
 |wn o n=>
  rcases h with⟨_,_,rfl⟩|⟨_,b,c,_,rfl⟩
  ·exact⟨rfl,rfl⟩
  ·exact⟨rfl,rfl⟩
 |s o sz off len=>obtain⟨A,c,b,k,_,rfl,_⟩:=h;exact⟨rfl,rfl⟩
 |p o k=>obtain⟨b,c,_,rfl⟩:=h;exact⟨rfl,rfl⟩
 |e o sz i j=>obtain⟨b,c,_,rfl⟩:=h;exact⟨rfl,rfl⟩
 |q g x j=>obtain⟨b,k,rfl,_⟩:=h;exact⟨rfl,rfl⟩
 |fn f=>subst h;exact⟨rfl,rfl⟩
 |nil=>subst h;exact⟨rfl,rfl⟩
 |any=>cases hs
 |r l x=>exact⟨ro h,ye h⟩
 |z x=>exact IC h
 |zq x j=>obtain⟨b,k,rfl,_⟩:=h;exact⟨rfl,rfl⟩
theorem Qh {t:TypeId} {c:C} {l:Nat} (hs:c.sto=true):AWN P ⟨d,.box t x,ty,ps,af,gd⟩ [(x,.v (.c c))] [] (.v (.c (.p l 0))) [(l,.var t [c])]:=
 wh fun cx E a w ok hn _ hl=>by
  have hu:cvC E w c (a.eval x):=hn x _ (.head _)
  obtain⟨h1,h2⟩:=I3 hs hu
  refine⟨.pointer (some ⟨w.heap.size,0,none⟩),.cells #[a.eval x] t,0,by simp[execOp,Instr.box,h2,newVar,newRow],⟨_,_,va _ _ _ _,rfl⟩,?_⟩
  exact⟨_,_,#[a.eval x],va _ _ _ _,ot _ _,⟨qg (.of_ext ok (D9 ok hl _ 0)) hu,trivial⟩,tg ok _ _⟩
def cD:C→Option (D×Bool)
 | .d g (.l xs)=>some (.l xs,g)
 | .d _ (.i k n)=>some (.i k n,true)
 | .d _ (.b b)=>some (.b b,true)
 | .d _ (.str s)=>some (.str s,true)
 | .d _ (.k A n c)=>some (.k A n c,true)
 | .nil=>some (.l [],true)
 |_=>none
def csD:List C→Option (List D×Bool)
 |[]=>some ([],true)
 |c::cs=>match cD c,csD cs with
  |some (x,g),some (xs,g')=>some (x::xs,g&&g')
  |_,_=>none
def vD:V→Option (List D×Bool)
 | .c c=>match cD c with
  |some (x,g)=>some ([x],g)
  |none=>none
 | .agg cs=>csD cs
theorem Q7 {cx:Cx} {E:Env} {w:World} (ok:cQ cx E w) {c:C} {x:D} {g:Bool} {u:Value} (h:cD c=some (x,g)) (hc:cvC E w c u):rdD w (E.H g) x u∧u.oneCell'=true∧u.cells= #[u]:=by
 cases c with
 |d g' x'=>
  refine⟨?_,ro hc,ye hc⟩
  cases x'<;>simp[cD] at h<;>obtain⟨rfl,rfl⟩:=h<;>first|exact hc|(simp only[cvC,rdD] at hc ⊢;exact hc)
 |nil=>
  simp[cD] at h
  obtain⟨rfl,rfl⟩:=h
  have hu:u= .slice none 0 0:=hc
  subst hu
  exact⟨by rw[rdD];exact⟨none,0,rfl,Tt _,.inl rfl⟩,rfl,rfl⟩
 |_=>simp[cD] at h
theorem mY {cx:Cx} {E:Env} {w:World} (ok:cQ cx E w) {g g':Bool} {x:D} {u:Value} (h:rdD w (E.H (g)) x u) (hg:g'=true→g=true):rdD w (E.H g') x u:=by
 cases g' with
 |true=>rwa [hg rfl] at h
 |false=>
  cases g with
  |false=>exact h
  |true=>exact cj (fun _ _=>rfl) (fun b hb=>ok.gf b hb) x u h
theorem MC {cx:Cx} {E:Env} {w:World} (ok:cQ cx E w):∀{cs:List C} {xs:List D} {g:Bool} {us:List Value},csD cs=some (xs,g)→CV E w cs us→
 xs.length=us.length∧(∀u∈us,u.oneCell'=true)∧∀(j:Nat) (xd:D),xs[j]?=some xd→∃u,us[j]?=some u∧rdD w (E.H g) xd u
 |[],xs,g,us,h,hc=>by
  simp[csD] at h;obtain⟨rfl,rfl⟩:=h
  cases us with
  |nil=>exact⟨rfl,by simp,by simp⟩
  |cons _ _=>exact hc.elim
 |c::cs,xs,g,us,h,hc=>by
  cases us with
  |nil=>exact hc.elim
  |cons u us=>
   cases h1:cD c with
   |none=>simp[csD,h1] at h
   |some p=>
    obtain⟨x,g1⟩:=p
    cases h2:csD cs with
    |none=>simp[csD,h1,h2] at h
    |some p=>
     obtain⟨xs',g2⟩:=p
     simp[csD,h1,h2] at h
     obtain⟨rfl,rfl⟩:=h
     obtain⟨k1,k2,k3⟩:=Q7 ok h1 hc.1
     obtain⟨m1,m2,m3⟩:=MC ok h2 hc.2
     refine⟨by simp[m1],by simpa using⟨k2,m2⟩,fun j xd hj=>?_⟩
     cases j with
     |zero=>simp at hj;subst hj;exact⟨u,rfl,mY ok k1 (by simp;intro a _;exact a)⟩
     |succ j=>
      obtain⟨v,n1,n2⟩:=m3 j xd (by simpa using hj)
      exact⟨v,by simpa using n1,mY ok n2 (by simp)⟩
theorem O6 {cx:Cx} {E:Env} {w:World} (ok:cQ cx E w) {v:V} {xs:List D} {g:Bool} {u:Value} (h:vD v=some (xs,g)) (hv:cvV E w v u):
 u.cells.size=xs.length∧(∀c∈u.cells.toList,c.oneCell'=true)∧∀(j:Nat) (xd:D),xs[j]?=some xd→∃c,u.cells[j]?=some c∧rdD w (E.H g) xd c:=by
 cases v with
 |c c=>
  cases h1:cD c with
  |none=>simp[vD,h1] at h
  |some p=>
   obtain⟨x,g1⟩:=p
   simp[vD,h1] at h
   obtain⟨rfl,rfl⟩:=h
   obtain⟨k1,k2,k3⟩:=Q7 ok h1 hv
   rw[k3]
   refine⟨rfl,by simpa using k2,fun j xd hj=>?_⟩
   cases j with
   |zero=>simp at hj;subst hj;exact⟨u,rfl,k1⟩
   |succ j=>simp at hj
 |agg cs=>
  obtain⟨arr,rfl,hc⟩:=hv
  obtain⟨m1,m2,m3⟩:=MC ok h hc
  refine⟨by simpa [Value.cells] using m1.symm,by simpa [Value.cells] using m2,fun j xd hj=>?_⟩
  obtain⟨c,n1,n2⟩:=m3 j xd hj
  exact⟨c,by simpa [Value.cells] using n1,n2⟩
end
end Go.AM
namespace Go.AM
open Go.RowKit
class TyB (P:Program) (t:TypeId) (pl:outParam (List (Nat×Nat))):Prop where
 h:∃fs,P.underlying t=some (.struct fs)∧∀w,(fs.mapM (fun f=>Prod.mk f.offset<$>sizeOf f.type):Sem (Array (Nat×Nat))).run P w= .ok pl.toArray w
def nf:List Value→Option (List D)
 |[]=>some []
 | .int k n::r=>match nf r with|some xs=>some (.i k n::xs)|none=>none
 | .bool b::r=>match nf r with|some xs=>some (.b b::xs)|none=>none
 | .string s::r=>match nf r with|some xs=>some (.str s::xs)|none=>none
 | .slice none 0 0::r=>match nf r with|some xs=>some (.l []::xs)|none=>none
 |_=>none
class TyE (P:Program) (e:TypeId) (zd:outParam (List D)):Prop where
 h:∃i z,P.info? e=some i∧i.zero=some z∧nf z.cells.toList=some zd
theorem vp {w:World} {F:Nat→Prop}:∀{us:List Value} {xs:List D},nf us=some xs→us.length=xs.length∧∀(j:Nat) (xd:D),xs[j]?=some xd→∃u,us[j]?=some u∧rdD w F xd u
 |[],xs,h=>by simp[nf] at h;subst h;exact⟨rfl,by simp⟩
 |u::us,xs,h=>by
  have key:∃x xs',xs=x::xs'∧nf us=some xs'∧rdD w F x u:=by
   unfold nf at h
   split at h
   ·simp at*
   ·rename_i e;injection e with e1 e2;subst e1;subst e2;split at h
    ·rename_i r h1;simp at h;exact⟨_,r,h.symm,h1,by simp[rdD]⟩
    ·cases h
   ·rename_i e;injection e with e1 e2;subst e1;subst e2;split at h
    ·rename_i r h1;simp at h;exact⟨_,r,h.symm,h1,by simp[rdD]⟩
    ·cases h
   ·rename_i e;injection e with e1 e2;subst e1;subst e2;split at h
    ·rename_i r h1;simp at h;exact⟨_,r,h.symm,h1,by simp[rdD]⟩
    ·cases h
   ·rename_i e;injection e with e1 e2;subst e1;subst e2;split at h
    ·rename_i r h1;simp at h;exact⟨_,r,h.symm,h1,by rw[rdD];exact⟨none,0,rfl,Tt _,.inl rfl⟩⟩
    ·cases h
   ·cases h
  obtain⟨x,xs',rfl,h1,h2⟩:=key
  obtain⟨k1,k2⟩:=vp (w:=w) (F:=F) h1
  refine⟨by simp[k1],fun j xd hj=>?_⟩
  cases j with
  |zero=>simp at hj;subst hj;exact⟨u,rfl,h2⟩
  |succ j=>obtain⟨v,m1,m2⟩:=k2 j xd (by simpa using hj);exact⟨v,by simpa using m1,m2⟩
def vcs:V→Option (List C)
 | .c c=>match c.sto with|true=>some [c]|false=>none
 | .agg cs=>some cs
theorem Fo {E:Env} {w:World} {v:V} {cs:List C} {u:Value} (h:vcs v=some cs) (hv:cvV E w v u):CV E w cs u.cells.toList:=by
 cases v with
 |c c=>
  simp only[vcs] at h
  cases hs:c.sto with
  |false=>simp[hs] at h
  |true=>simp[hs] at h;subst h;obtain⟨_,h2⟩:=I3 hs hv;rw[h2];exact⟨hv,trivial⟩
 |agg cs'=>simp[vcs] at h;subst h;obtain⟨arr,rfl,hc⟩:=hv;exact hc
def Ad (pl:List (Nat×Nat)):List C→List (Nat×V)→Option (List C)
 |cs,[]=>some cs
 |cs,(i,v)::r=>match pl[i]?,vcs v with
  |some (off,n),some ns=>match d0 ns.length n,qK off ns cs with
   |true,some cs'=>Ad pl cs' r
   |_,_=>none
  |_,_=>none
def PV (E:Env) (w:World):List (Nat×V)→List (Nat×Value)→Prop
 |[],[]=>True
 |(i,v)::r,(j,u)::s=>i=j∧cvV E w v u∧PV E w r s
 |_,_=>False
theorem xI {E:Env} {w:World} {off:Nat} {ns cs r:List C} {us vs ws:List Value} (h:qK off ns cs=some r) (hn:CV E w ns us) (hc:CV E w cs vs) (hl:ws.length=vs.length)
 (hw:∀k,ws[k]?=if off≤k∧k<off+us.length then us[k-off]? else vs[k]?):CV E w r ws:=by
 have hln:=gz hn
 have hlc:=gz hc
 refine Q1 ?_ fun k c hk=>?_
 ·obtain⟨h1,h2⟩:=pM h;subst h1;simp;omega
 ·rw[Hz h k] at hk
  rw[hw k,hln]
  split at hk
  ·rename_i hi;rw[if_pos hi];exact CB hn hk
  ·rename_i hi;rw[if_neg hi];exact CB hc hk
theorem JC {E:Env} {w:World} {pl:List (Nat×Nat)}:∀{ps:List (Nat×V)} {us:List (Nat×Value)} {cs r:List C} {arr:Array Value},PV E w ps us→CV E w cs arr.toList→Ad pl cs ps=some r→
 ∃arr',Instr.fill (pl.toArray[·]?) arr us=some arr'∧CV E w r arr'.toList
 |[],[],cs,r,arr,_,hc,h=>by simp[Ad] at h;subst h;exact⟨arr,rfl,hc⟩
 |(i,v)::ps,(j,u)::us,cs,r,arr,hp,hc,h=>by
  obtain⟨rfl,hv,hp⟩:=hp
  simp only[Ad] at h
  split at h
  ·rename_i off n ns h1 h2
   split at h
   ·rename_i cs' h3 h4
    have h3':=To h3
    have hcn:=Fo h2 hv
    have hl:=gz hcn
    have hlc:=gz hc
    obtain⟨g1,g2⟩:=Go.Great.foldl_set off u.cells.toList 0 arr
    have hsz:u.cells.size=n:=by simp at hl;omega
    have hle:=(pM h4).2
    have hsp:CV E w cs' ((u.cells.toList.zipIdx 0).foldl (fun cs (x:Value×Nat)=>cs.setIfInBounds (off+x.2) x.1) arr).toList:=by
     refine xI h4 hcn hc (by simp[g1]) fun k=>?_
     rw[Array.getElem?_toList,g2 k]
     simp only[TO]
     by_cases hk:off≤k∧k<off+u.cells.toList.length
     ·rw[if_pos hk,if_pos ⟨hk.1,hk.2,by simp at hlc hk;omega⟩]
     ·rw[if_neg hk,if_neg (by omega)];simp
    obtain⟨arr',k1,k2⟩:=JC (pl:=pl) hp hsp h
    refine⟨arr',?_,k2⟩
    rw[←k1]
    conv=>lhs;unfold Instr.fill
    have hpl:pl.toArray[i]?=some (off,n):=by simpa using h1
    simp only[hpl]
    rw[if_neg (by simp at hlc;simp[hsz];omega)]
    congr 1
    rw[←Array.foldl_toList,Array.toList_zipIdx]
   ·cases h
  ·cases h
 |[],_::_,_,_,_,hp,_,_=>hp.elim
 |_::_,[],_,_,_,hp,_,_=>hp.elim
section
variable {P:Program} {N:Nat} {d:Option Tmp} {ty:TypeId} {ps:String} {af:Array Edge} {gd:Option (Nat×Bool)} {x y z:Operand}
theorem Mg {E:Env} {a:Act} {w:World}:∀{parts:List (Nat×Operand)} {vs:List V},vs.length=parts.length→(∀x t,(x,t)∈(parts.map (·.2)).zip (vs.map T.v)→cvT E w t (a.eval x))→
 PV E w ((parts.map (·.1)).zip vs) (parts.map fun p=>(p.1,a.eval p.2))
 |[],[],_,_=>trivial
 |(i,x)::ps,v::vs,hl,h=>⟨rfl,h x (.v v) (by simp),Mg (by simpa using hl) fun x t hm=>h x t (by simp only[List.map_cons,List.zip_cons_cons];exact .tail _ hm)⟩
 |[],_::_,hl,_=>by simp at hl
 |_::_,[],hl,_=>by simp at hl
theorem J7 {t:TypeId} {zs cs:List C} {pl:List (Nat×Nat)} {parts:List (Nat×Operand)} {vs:List V} [hz:TyZ P t zs] [hb:TyB P t pl] (hv:vs.length=parts.length)
 (h:Ad pl zs ((parts.map (·.1)).zip vs)=some cs):AWN P ⟨d,.build t parts.toArray,ty,ps,af,gd⟩ ((parts.map (·.2)).zip (vs.map T.v)) [] (.v (.agg cs)) []:=
 b7 fun E a w hn _=>by
  obtain⟨i,z,h1,h2,h3⟩:=hz.h
  obtain⟨fs,h4,h5⟩:=hb.h
  obtain⟨arr',k1,k2⟩:=JC (arr:=z.cells) (Mg hv hn) (by rw[←h3];exact qc _ _ _) h
  refine⟨.agg arr',?_,arr',rfl,k2⟩
  have k1':Instr.fill (fun x=>pl[x]?) z.cells (List.map (fun p=>(p.fst,a.eval p.snd)) parts)=some arr':=by simpa using k1
  simp[execOp,Instr.build,zeroValue,typeInfo,h1,h2,underlying,h4,h5,k1']
def vsD:List V→Option (List (List D)×Bool)
 |[]=>some ([],true)
 |v::vs=>match vD v,vsD vs with
  |some (e,g),some (es,g')=>some (e::es,g&&g')
  |_,_=>none
theorem O7 {cx:Cx} {E:Env} {w:World} (ok:cQ cx E w):∀{vs:List V} {els:List (List D)} {g:Bool},vsD vs=some (els,g)→els.length=vs.length∧
 ∀(i:Nat) (e:List D),els[i]?=some e→∃v g',vs[i]?=some v∧vD v=some (e,g')∧(g=true→g'=true)
 |[],els,g,h=>by simp[vsD] at h;obtain⟨rfl,rfl⟩:=h;exact⟨rfl,by simp⟩
 |v::vs,els,g,h=>by
  cases h1:vD v with
  |none=>simp[vsD,h1] at h
  |some p=>
   obtain⟨e,g1⟩:=p
   cases h2:vsD vs with
   |none=>simp[vsD,h1,h2] at h
   |some p=>
    obtain⟨es,g2⟩:=p
    simp[vsD,h1,h2] at h
    obtain⟨rfl,rfl⟩:=h
    obtain⟨k1,k2⟩:=O7 ok h2
    refine⟨by simp[k1],fun i e' hi=>?_⟩
    cases i with
    |zero=>simp at hi;subst hi;exact⟨v,g1,rfl,h1,by simp;intro a _;exact a⟩
    |succ i=>obtain⟨v',g',m1,m2,m3⟩:=k2 i e' (by simpa using hi);exact⟨v',g',by simpa using m1,m2,fun hg=>m3 (by simp at hg;exact hg.2)⟩
def NB (sz:Nat):List (List D)→Bool
 |[]=>true
 |e::es=>d0 e.length sz&&NB sz es
theorem JU {sz:Nat}:∀{els:List (List D)},NB sz els=true→∀e∈els,e.length=sz
 |e::es,h,e',hm=>by
  simp only[NB,hV] at h
  rcases Tq.1 hm with rfl|hm
  ·exact To h.1
  ·exact JU h.2 e' hm
theorem Et {t:TypeId} {e sz by_:Nat} {len l:Nat} {parts:List (Nat×Operand)} {vs:List V} {els:List (List D)} {g:Bool} [ht:TySl P t e sz by_] (hlen:len=parts.length) (hv:vs.length=parts.length)
 (hi:parts.map (·.1)=List.range len) (he:vsD vs=some (els,g)) (hs:NB sz els=true) (h24:len*sz≤16777216):
 AWN P ⟨d,.buildSlice t len parts.toArray,ty,ps,af,gd⟩ ((parts.map (·.2)).zip (vs.map T.v)) [] (.v (.c (.w l len))) [(l,.row e sz els g true)]:=
 wh fun cx E a w ok hn _ hl=>by
  subst hlen
  have hsz:=JU hs
  obtain⟨ii,zz,i1,i2,i3,i4,i5⟩:=ht.i
  obtain⟨m1,m2⟩:=O7 ok he
  have hval:∀(i:Nat) (v:V),vs[i]?=some v→∃p,parts[i]?=some p∧cvV E w v (a.eval p.2):=by
   intro i v hi
   have hlt:i<vs.length:=(Tm.1 hi).1
   have hp:i<parts.length:=by omega
   refine⟨parts[i],v0 hp,hn parts[i].2 (.v v) ?_⟩
   refine Tn (i:=i) ?_
   rw[List.getElem?_zip_eq_some]
   simp[hi,hp]
  have hcell:∀p∈parts,(a.eval p.2).cells.size=sz:=by
   intro p hp
   obtain⟨i,hi⟩:=List.getElem?_of_mem hp
   have hlt:i<parts.length:=(Tm.1 hi).1
   obtain⟨v,hv'⟩:∃v,vs[i]?=some v:=⟨_,v0 (by omega)⟩
   obtain⟨e',he'⟩:∃e',els[i]?=some e':=⟨_,v0 (by omega)⟩
   obtain⟨v2,g',n1,n2,n3⟩:=m2 i e' he'
   rw[hv'] at n1;cases n1
   obtain⟨p',q1,q2⟩:=hval i v hv'
   rw[hi] at q1;cases q1
   rw[(O6 ok n2 q2).1];exact hsz e' (Tn he')
  have hparts:(parts.map fun p=>(p.1,a.eval p.2))=(((parts.map fun p=>a.eval p.2).zipIdx 0).map fun x=>(x.2,x.1)):=by
   apply List.ext_getElem?
   intro i
   simp only[List.getElem?_map,List.getElem?_zipIdx]
   cases hp:parts[i]? with
   |none=>simp
   |some p=>
    have:(parts.map (·.1))[i]?=some p.1:=by simp[hp]
    rw[hi] at this
    have hpi:p.1=i:=by
     have hlt:i<parts.length:=(Tm.1 hp).1
     simp[hlt] at this;omega
    simp[hpi]
  obtain⟨r,f1,f2,f3⟩:=Go.Great.fill_dense (s:=sz) ht.p (parts.map fun p=>a.eval p.2) 0 ((Array.range (parts.length*sz)).map ((if parts.length*sz=0 then #[] else zz.cells)[· %(if parts.length*sz=0 then #[] else zz.cells).size]!))
   (by intro v hv;simp at hv;obtain⟨i,x,hm,rfl⟩:=hv;exact hcell (i,x) hm) (by simp)
  refine⟨.slice (some ⟨w.heap.size,0,none⟩) parts.length parts.length,.cells r e,parts.length,?_,⟨_,_,va _ _ _ _,rfl⟩,?_⟩
  ·have hroom:¬parts.length*ii.size>2^24:=by rw[i2];omega
   by_cases h0:parts.length*sz=0
   ·simp only[execOp,Instr.buildSlice]
    simp[underlying,ht.u,ez i1,i2,h0,newRow]
    simp[h0] at f1
    have:parts=[]:=by
     have:=ht.p
     rcases Nat.mul_eq_zero.1 h0 with h|h
     ·exact List.eq_nil_of_length_eq_zero h
     ·omega
    subst this
    simp at f1 ⊢
    simp[Instr.fill] at f1 ⊢
    subst f1
    simp
   ·simp only[execOp,Instr.buildSlice]
    have hroom':¬16777216<parts.length*sz:=by omega
    simp only[h0,if_false] at f1
    rw[←hparts] at f1
    simp[underlying,ht.u,ez i1,i2,h0,hroom',newRow,zeroValue,typeInfo,i1,i4,f1]
  ·refine⟨_,_,r,va _ _ _ _,ot _ _,by simp[f2],by rw[m1,hv];exact Tt _,?_,hsz,?_,fun _=>tg ok _ _,fun h=>by cases h⟩
   ·have:=ht.p
    have:parts.length≤parts.length*sz:=Nat.le_mul_of_pos_right _ this
    unfold maxLen;omega
   ·refine rp hsz fun i e' hi'=>lJ fun j xd hj=>?_
    obtain⟨v,g',n1,n2,n3⟩:=m2 i e' hi'
    obtain⟨p,q1,q2⟩:=hval i v n1
    obtain⟨r1,r2,r3⟩:=O6 ok n2 q2
    obtain⟨c,s1,s2⟩:=r3 j xd hj
    have hjs:j<sz:=by rw[←hsz e' (Tn hi')];exact(Tm.1 hj).1
    have hil:i<parts.length:=(Tm.1 q1).1
    refine⟨c,?_,?_⟩
    ·rw[et (ot w _),f3]
     have hlt:0+i*sz+j<(0+(parts.map fun p=>a.eval p.2).length)*sz:=by
      simp only[List.length_map,Tv]
      calc i*sz+j<i*sz+sz:=by omega
       _=(i+1)*sz:=by rw[TG];omega
       _≤parts.length*sz:=TM _ hil
     rw[if_pos ⟨by simp,hlt⟩]
     have hdiv:(0+i*sz+j)/sz=i:=by
      rw[Tv,TQ,Nat.add_mul_div_right _ _ ht.p,Nat.div_eq_of_lt hjs];omega
     have hmod:(0+i*sz+j)%sz=j:=by
      rw[Tv,TQ,TR];exact TT hjs
     rw[hdiv,hmod]
     simp[q1,s1]
    ·have h9:=mY ok s2 n3
     exact cj (fun b hb=>Below.heap_alloc _ _ b (ok.hb hb)) (fun b hb=>(D9 ok hl (.cells r e) parts.length).H hb) _ _ h9
theorem Sf {t:TypeId} {e sz by_:Nat} {zd:List D} {l:Nat} {g g':Bool} {k k':IntKind} {n:Nat} {c:Int} [ht:TySl P t e sz by_] [he:TyE P e zd] (hc:n≤c) (hb:(by_:Int)*c≤281474976710656) (h63:c≤9223372036854775807):
 AWN P ⟨d,.makeSlice t x y,ty,ps,af,gd⟩ [(x,.v (.c (.d g (.i k n)))),(y,.v (.c (.d g' (.i k' c))))] [] (.v (.c (.w l n))) [(l,.row e sz (TE n zd) true true)]:=
 wh fun cx E a w ok hn _ hl=>by
  obtain⟨ii,zz,i1,i2,i3,i4,i5⟩:=ht.i
  obtain⟨i',z',j1,j2,j3⟩:=he.h
  rw[i1] at j1;cases j1
  rw[i4] at j2;cases j2
  have h1:=gB (hn x _ (.head _))
  have h2:=gB (hn y _ (.tail _ (.head _)))
  have hzl:=(vp (w:=w) (F:=fun _=>True) j3).1
  have hzd:zd.length=sz:=by rw[←hzl];simpa using i5
  have hsz:∀x∈TE n zd,x.length=sz:=fun x hx=>by rw[TS hx];exact hzd
  refine⟨.slice (some ⟨w.heap.size,0,none⟩) n c.toNat,.cells (madeCells zz.cells (c.toNat*sz)) e,c.toNat,?_,⟨_,_,va _ _ _ _,rfl⟩,?_⟩
  ·have:=run_make (P:=P) w t e ii zz ht.u i1 i4 k k' n c (by omega) hc (by rw[i3];exact hb) h63
   simp[execOp,h1,h2,this,i2]
  ·refine⟨_,_,_,va _ _ _ _,ot _ _,by simp[size_madeCells],by simp;omega,by unfold maxLen;omega,hsz,?_,fun _=>tg ok _ _,fun h=>by cases h⟩
   refine rp hsz fun i e' hi'=>lJ fun j xd hj=>?_
   have hin:i<n:=by simpa using(Tm.1 hi').1
   have he':e'=zd:=TS (Tn hi')
   subst he'
   obtain⟨u,u1,u2⟩:=(vp (w:=w.alloc (.cells (madeCells zz.cells (c.toNat*sz)) e)) (F:=(E.new l w.heap.size c.toNat).H true) j3).2 j xd hj
   have hjs:j<sz:=by rw[←hzd];exact(Tm.1 hj).1
   refine⟨u,?_,u2⟩
   rw[et (ot w _)]
   have hlt:0+i*sz+j<c.toNat*sz:=by
    calc 0+i*sz+j<i*sz+sz:=by omega
     _=(i+1)*sz:=by rw[TG];omega
     _≤c.toNat*sz:=TM _ (by omega)
   have hmod:(0+i*sz+j)%zz.cells.size=j:=by
    rw[i5,Tv,TQ,TR];exact TT hjs
   have hzj:zz.cells[j]?=some u:=by simpa using u1
   have hzs:j<zz.cells.size:=by rw[i5];exact hjs
   simp only[madeCells,Array.getElem?_map,Array.getElem?_range,if_pos hlt,Option.map_some,hmod]
   rw[getElem!_pos zz.cells j hzs]
   rw[TA hzs] at hzj
   simpa using hzj
end
end Go.AM
namespace Go.AM
open Go.RowKit
class TyN (P:Program) (t:TypeId) (n:outParam Nat):Prop where
 n:∃i,P.info? t=some i∧i.size=n
theorem di (w:World) (b k:Nat) (cs:Array Value) (h:k≠b):(w.setRow b cs).heap[k]?=w.heap[k]?:=by
 simp only[World.setRow,Array.getElem?_modify]
 rw[if_neg (Ne.symm h)]
theorem iK {w:World} {b:Nat} {arr:Array Value} {t:TypeId} (cs:Array Value) (h:w.heap[b]?=some (.cells arr t (0,0))):(w.setRow b cs).heap[b]?=some (.cells cs t (0,0)):=
 setRow_heap w b arr cs t (0,0) h
section
variable {P:Program} {N:Nat} {d:Option Tmp} {ty:TypeId} {ps:String} {af:Array Edge} {gd:Option (Nat×Bool)} {x y z:Operand} {st:St}
theorem i7 {cx:Cx} {E:Env} {w:World} {o b c:Nat} {cs:Array Value} (ok:cQ cx E w) (hr:E.r o=some (b,c)) (hF:¬E.F b):iq E w E (w.setRow b cs):=
 ⟨fun _ _ h=>h,fun _ _ h=>h,fun g k hk=>di w b k cs (fun e=>by
  subst e
  cases g
  ·exact hF hk
  ·exact hF (ok.gf _ hk)),fun l k hk=>⟨hk,di w b k cs (fun e=>by subst e;exact(ok.sf.tb l k hk).2.2.1 o c hr)⟩,
  fun k hk=>⟨hk,.of_eq (di w b k cs (fun e=>by subst e;exact(ok.sf.zb k hk).2.2.1 o c hr))⟩,rfl⟩
theorem zf.setRow {cx:Cx} {E:Env} {w:World} {o b c:Nat} {cs:Array Value} (s:zf cx E w) (hr:E.r o=some (b,c)):zf cx E (w.setRow b cs):=by
 have hsz:(w.setRow b cs).heap.size=w.heap.size:=by simp
 refine⟨fun l k h=>?_,s.tt,fun k h=>?_,fun k h=>?_,s.ze⟩
 ·obtain⟨h1,h2,h3,h4⟩:=s.tb l k h
  exact⟨by rw[hsz];exact h1,h2,h3,h4.of_eq (di w b k cs (fun e=>by subst e;exact h3 o c hr))⟩
 ·obtain⟨h1,h2,h3,h4⟩:=s.zc k h
  exact⟨by rw[hsz];exact h1,h2,h3,h4.of_eq (di w b k cs (fun e=>by subst e;exact h3 o c hr))⟩
 ·obtain⟨h1,h2,h3,h4⟩:=s.zc k h
  exact(s.zs k h).trans (.of_eq (di w b k cs (fun e=>by subst e;exact h3 o c hr)))
theorem vI {cx:Cx} {E:Env} {a:Act} {w:World} {o b c:Nat} {ob':Ob} {cs:Array Value} (hR:Rel N cx E st a w) (hr:E.r o=some (b,c)) (hF:¬E.F b)
 (h':cy E (w.setRow b cs) o ob'):Rel N cx E ⟨st.sl,(o,ob')::st.ob,st.nx⟩ a (w.setRow b cs):=by
 have hk:=i7 (cs:=cs) (w:=w) hR.ok hr hF
 have hsz:(w.setRow b cs).heap.size=w.heap.size:=by simp
 refine⟨⟨fun k hk=>by rw[hsz];exact hR.ok.fb k hk,hR.ok.gf,hR.ok.gn,fun o b c h=>by rw[hsz];exact hR.ok.rb o b c h,hR.ok.inj,hR.ok.os,hR.ok.tape,hR.ok.output,by rw[hsz];exact hR.ok.size,fun k hk hW=>?_,hR.ok.pin,hR.ok.ff,fun k hg hk'=>(hR.ok.gc k hg hk').of_eq (di w b k cs (fun e=>hF (by subst e;exact hg))),hR.ok.sf.setRow hr⟩,hR.dom,fun l ob hl=>?_,fun k=>ie hk (hR.sl k),hR.dfr,hR.size,hR.td⟩
 ·rw[di _ _ _ _ (fun e=>by
   subst e
   rcases(hR.ok.rb o k c hr).2 with h|h
   ·omega
   ·exact hW h.1)]
  exact hR.ok.block k hk hW
 ·by_cases ho:o=l
  ·subst ho;rw[cg] at hl;cases hl;exact h'
  ·rw[bA _ _ ho] at hl
   exact fg hk (fun b' c' h=>di _ _ _ _ (fun e=>ho (by subst e;exact hR.ok.inj _ _ _ _ _ hr h))) (fun _ _ _ h=>h) (hR.obs l ob hl)
theorem pN {t:TypeId} {n b k:Nat} {vt:TypeId} {arr:Array Value} {u:Value} {w:World} [ht:TyN P t n] (hu:u.cells.size=n) (h1:∀c∈u.cells.toList,c.oneCell'=true) (hh:w.heap[b]?=some (.cells arr vt (0,0))) (hk:k+n≤arr.size):
 (Instr.storeAt t (.pointer (some ⟨b,k,none⟩)) u).run P w= .ok () (w.setRow b (arr.toList.take k++u.cells.toList++arr.toList.drop (k+n)).toArray):=by
 obtain⟨i,hi,hn⟩:=ht.n
 have:=run_storeCells_at (P:=P) b k vt u.cells.toList 0 arr w hh (by simp[hu];exact hk) h1
 simp only[TO,Array.length_toList,hu] at this
 simp[Instr.storeAt,Instr.sureAddr,storeVar,ez hi,hn,hu,this]
theorem Me {E:Env} {w:World} {v:V} {ns:List C} {u:Value} (h:vcs v=some ns) (hs:ns.all C.sto=true) (hv:cvV E w v u):∀c∈u.cells.toList,c.oneCell'=true:=by
 have hc:=Fo h hv
 have key:∀(ns:List C) (us:List Value),ns.all C.sto=true→CV E w ns us→∀c∈us,c.oneCell'=true:=by
  intro ns
  induction ns with
  |nil=>intro us _ hc;cases us with
   |nil=>simp
   |cons _ _=>exact hc.elim
  |cons n ns ih=>
   intro us hs hc
   cases us with
   |nil=>exact hc.elim
   |cons u us=>
    simp only[TF,hV] at hs
    intro c hm
    rcases Tq.1 hm with rfl|hm
    ·exact(I3 hs.1 hc.1).1
    ·exact ih us hs.2 hc.2 c hm
 exact key ns _ hs hc
theorem jL {us vs:List Value} {k n:Nat} (hn:us.length=n) (hk:k+n≤vs.length) (i:Nat):(vs.take k++us++vs.drop (k+n))[i]?=if k≤i∧i<k+us.length then us[i-k]? else vs[i]?:=by
 subst hn
 have hk':(vs.take k).length=k:=by simp;omega
 by_cases hi:i<k
 ·rw[if_neg (by omega),TL,Tu (by omega),TB,if_pos hi]
 ·rw[TL,Tz (by omega),hk']
  by_cases hj:i<k+us.length
  ·rw[if_pos ⟨by omega,hj⟩,Tu (by omega)]
  ·rw[if_neg (by omega),Tz (by omega),TJ]
   congr 1
   omega
theorem LC {t:TypeId} {n o k:Nat} {vt:TypeId} {cs cs' ns:List C} {v:V} [ht:TyN P t n] (hx:opT st.sl x= .v (.c (.p o k))) (hy:opT st.sl y= .v v) (ho:go st.ob o=some (.var vt cs)) (hv:vcs v=some ns)
 (hn:d0 ns.length n=true) (hst:ns.all C.sto=true) (hs:qK k ns cs=some cs'):AWO P N ⟨none,.store t x y,ty,ps,af,gd⟩ st ⟨st.sl,(o,.var vt cs')::st.ob,st.nx⟩:=by
 intro cx E a w hR
 have h1:=hR.op x;rw[hx] at h1
 have h2:=hR.op y;rw[hy] at h2
 obtain⟨b,c,hr,hu⟩:=h1
 obtain⟨b',c',arr,hr',hh,hcv,hF⟩:=hR.obs o _ ho
 rw[hr] at hr';cases hr'
 have hvc:=Fo hv h2
 have hl1:=gz hvc
 have hl2:=gz hcv
 have hnn:=To hn
 have hle:=(pM hs).2
 have hsz:(a.eval y).cells.size=n:=by simp at hl1;omega
 have hrun:=pN (P:=P) (t:=t) (n:=n) (k:=k) hsz (Me hv hst h2) hh (by simp at hl2;omega)
 unfold Oper.wp
 simp only[execOp,hu,Sem.run_bind,hrun,Result.andThen_ok,Sem.run_pure,Oper.upon_skip,Act.put]
 refine⟨E,vI hR hr hF ⟨b,c,_,hr,iK _ hh,?_,hF⟩⟩
 have hk:=i7 (cs:=(arr.toList.take k++(a.eval y).cells.toList++arr.toList.drop (k+n)).toArray) (w:=w) hR.ok hr hF
 refine nV hk (xI hs hvc hcv ?_ fun i=>?_)
 ·simp at hl2 ⊢;omega
 ·rw[show(arr.toList.take k++(a.eval y).cells.toList++arr.toList.drop (k+n)).toArray.toList=arr.toList.take k++(a.eval y).cells.toList++arr.toList.drop (k+n) from rfl]
  exact jL (by simpa using hsz) (by simp at hl2 ⊢;omega) i
theorem eX {w:World} {F:Nat→Prop}:∀{xs:List (List D)} {b k:Nat},rdLL w F xs b k↔rdL w F xs.flatten b k
 |[],b,k=>by simp[rdLL,rdL]
 |e::es,b,k=>by
  rw[rdLL,eX,List.flatten_cons]
  constructor
  ·rintro⟨h1,h2⟩
   refine lJ fun j d hj=>?_
   by_cases hje:j<e.length
   ·rw[Tu hje] at hj;exact kF h1 hj
   ·rw[Tz (by omega)] at hj
    have:=kF h2 hj
    rwa [show k+e.length+(j-e.length)=k+j from by omega] at this
  ·intro h
   refine⟨lJ fun j d hj=>?_,lJ fun j d hj=>?_⟩
   ·have hje:j<e.length:=(Tm.1 hj).1
    exact kF h (by rw[Tu hje];exact hj)
   ·have:=kF (j:=e.length+j) h (by rw[Tz (by omega)];simpa using hj)
    rwa [show k+(e.length+j)=k+e.length+j from by omega] at this
theorem gE {sz:Nat} {xs:List (List D)} (h:∀e∈xs,e.length=sz):xs.flatten.length=xs.length*sz:=by
 rw[List.length_flatten];exact KC h
theorem LB {t:TypeId} {n o sz i j:Nat} {rt:TypeId} {els:List (List D)} {el el' ns:List D} {g g':Bool} {v:V} [ht:TyN P t n] (hx:opT st.sl x= .v (.c (.e o sz i j))) (hy:opT st.sl y= .v v)
 (ho:go st.ob o=some (.row rt sz els g true)) (hv:vD v=some (ns,g')) (hn:d0 ns.length n=true) (he:els[i]?=some el) (hs:qK j ns el=some el'):
 AWO P N ⟨none,.store t x y,ty,ps,af,gd⟩ st ⟨st.sl,(o,.row rt sz (els.set i el') (g&&g') true)::st.ob,st.nx⟩:=by
 intro cx E a w hR
 have h1:=hR.op x;rw[hx] at h1
 have h2:=hR.op y;rw[hy] at h2
 obtain⟨b,c,hr,hu⟩:=h1
 obtain⟨b',c',arr,hr',hh,ha,hlc,hmx,hes,hrd,hFm,_⟩:=hR.obs o _ ho
 rw[hr] at hr';cases hr'
 have hF:=hFm rfl
 obtain⟨v1,v2,v3⟩:=O6 hR.ok hv h2
 have hnn:=To hn
 have hil:i<els.length:=(Tm.1 he).1
 have hel:el.length=sz:=hes el (Tn he)
 obtain⟨hsp,hle⟩:=pM hs
 have hel':el'.length=sz:=by rw[hsp];simp;omega
 have hbound:i*sz+j+n≤arr.size:=by
  rw[ha]
  calc i*sz+j+n≤i*sz+sz:=by omega
   _=(i+1)*sz:=by rw[TG];omega
   _≤c*sz:=TM _ (by omega)
 have hrun:=pN (P:=P) (t:=t) (n:=n) (k:=i*sz+j) (by omega) v2 hh hbound
 unfold Oper.wp
 simp only[execOp,hu,Sem.run_bind,hrun,Result.andThen_ok,Sem.run_pure,Oper.upon_skip,Act.put]
 have hk:=i7 (cs:=(arr.toList.take (i*sz+j)++(a.eval y).cells.toList++arr.toList.drop (i*sz+j+n)).toArray) (w:=w) hR.ok hr hF
 have hes':∀e∈els.set i el',e.length=sz:=fun e hm=>by
  rcases List.mem_or_eq_of_mem_set hm with h|h
  ·exact hes e h
  ·rw[h];exact hel'
 refine⟨E,vI hR hr hF ⟨b,c,_,hr,iK _ hh,?_,by simpa using hlc,hmx,hes',?_,fun _=>hF,fun h=>by cases h⟩⟩
 ·rw[←ha];simp;omega
 ·refine rp hes' fun i' e' hi'=>lJ fun j' xd hj'=>?_
  rw[et (iK _ hh)]
  have hj'l:j'<sz:=by rw[←hes' e' (Tn hi')];exact(Tm.1 hj').1
  rw[List.getElem?_toArray,jL (by simp;omega) (by simp;omega)]
  have hlen:(a.eval y).cells.toList.length=n:=by simp;omega
  rw[hlen,Tv]
  rw[List.getElem?_set] at hi'
  by_cases hii:i=i'
  ·subst hii
   rw[if_pos rfl,if_pos hil] at hi'
   cases hi'
   rw[Hz hs] at hj'
   by_cases hin:j≤j'∧j'<j+ns.length
   ·rw[if_pos hin] at hj'
    obtain⟨u,u1,u2⟩:=v3 _ _ hj'
    refine⟨u,?_,?_⟩
    ·rw[if_pos (by omega),show i*sz+j'-(i*sz+j)=j'-j from by omega];simpa using u1
    ·exact cj (hk.heap _) (hk.H _) _ _ (mY hR.ok u2 (by simp))
   ·rw[if_neg hin] at hj'
    obtain⟨u,u1,u2⟩:=kF (nr hrd hes he) hj'
    refine⟨u,?_,?_⟩
    ·rw[if_neg (by omega)];rw[et hh] at u1;simpa using u1
    ·exact cj (hk.heap _) (hk.H _) _ _ (mY hR.ok u2 (by simp;intro a _;exact a))
  ·rw[if_neg hii] at hi'
   obtain⟨u,u1,u2⟩:=kF (nr hrd hes hi') hj'
   refine⟨u,?_,?_⟩
   ·have hel'':j'<sz:=hj'l
    rw[if_neg ?_]
    ·rw[et hh] at u1;simpa using u1
    ·rintro⟨k1,k2⟩
     rcases Nat.lt_or_gt_of_ne hii with h|h
     ·have:(i+1)*sz≤i'*sz:=TM _ h
      rw[TG] at this;omega
     ·have:(i'+1)*sz≤i*sz:=TM _ h
      rw[TG] at this;omega
   ·exact cj (hk.heap _) (hk.H _) _ _ (mY hR.ok u2 (by simp;intro a _;exact a))
end
end Go.AM
