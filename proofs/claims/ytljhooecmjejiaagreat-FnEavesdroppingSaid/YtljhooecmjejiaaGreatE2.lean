/- A part. -/
import Derived.Test.YtljhooecmjejiaaGreatE1
set_option linter.unusedVariables false
set_option linter.unusedSimpArgs false
open List renaming getElem?_eq_getElem→v0,getElem?_eq_some_iff→Tm,getElem?_append_left→Tu,getElem?_append_right→Tz,eq_nil_of_length_eq_zero→Ui,mem_of_getElem?→Tn,getElem?_take→TB,pairwise_iff_getElem→Uh,findIdx?_eq_some_iff_getElem→Um,filter_cons_of_pos→Uj,filter_cons_of_neg→Uk,mem_cons→Tq,any_eq_true→Ug,mem_append→TW,range→TU,findIdx?_eq_none_iff→Uo,length_cons→TY,getElem?_of_mem→T0,zip_cons_cons→Up,all_eq_true→TX,nodup_cons→Un
open Array renaming getElem?_eq_getElem→TA,getElem?_eq_none→Ub,getD_eq_getD_getElem?→Uf,replicate→TZ
open Nat renaming eq_of_beq_eq_true→To,le_refl→Tt,beq→d0,lt_or_ge→T9,lt_of_lt_of_le→Uc,zero_le→Ud,min_eq_left→Ul,zero_add→Tv
open Bool renaming and_eq_true→hV,not_eq_true'→Ue,or_eq_true→T8,or_eq_false_iff→Ua
namespace Go.AM
open Go.RowKit
def C.has (o:Nat):C→Bool
 | .w l _| .s l _ _ _| .p l _| .e l _ _ _| .wn l _=>d0 l o
 |_=>false
def yG (o:Nat):List C→Bool
 |[]=>false
 |c::cs=>c.has o||yG o cs
def V.has (o:Nat):V→Bool
 | .c x=>x.has o
 | .agg cs=>yG o cs
def CW (o:Nat):List V→Bool
 |[]=>false
 |c::cs=>c.has o||CW o cs
def T.has (o:Nat):T→Bool
 | .v x=>x.has o
 | .tup ts=>CW o ts
 | .any=>false
def mn (o:Nat):List (Nat×T)→Option (List (Nat×T))
 |[]=>some []
 |(k,t)::r=>match mn o r,t.has o with
  |some r',true=>some ((k,.any)::r')
  |some r',false=>some ((k,t)::r')
  |none,_=>none
def yJ (o:Nat):List C→Option (List C)
 |[]=>some []
 |c::r=>match yJ o r,c.has o with
  |some r',true=>some (.any::r')
  |some r',false=>some (c::r')
  |none,_=>none
def kj (o:Nat):List (Nat×Ob)→Option (List (Nat×Ob))
 |[]=>some []
 |(k,.var t cs)::r=>match kj o r,yJ o cs with
  |some r',some cs'=>some ((k,.var t cs')::r')
  |_,_=>none
 |(k,.row t sz els g m)::r=>match kj o r with
  |some r'=>some ((k,.row t sz els g m)::r')
  |none=>none
 |(k,.rown t sz els g)::r=>match kj o r with
  |some r'=>some ((k,.rown t sz els g)::r')
  |none=>none
 |(k,.abs l y)::r=>match kj o r with
  |some r'=>some ((k,.abs l y)::r')
  |none=>none
theorem tf {o:Nat}:∀{sl sl':List (Nat×T)},mn o sl=some sl'→∀k,gt sl' k= .any∨(gt sl' k=gt sl k∧(gt sl k).has o=false)
 |[],sl',h,k=>by simp[mn] at h;subst h;exact .inl rfl
 |(j,t)::r,sl',h,k=>by
  simp only[mn] at h
  cases h1:mn o r with
  |none=>simp[h1] at h
  |some r'=>
   have ih:=tf h1 k
   cases h2:t.has o with
   |true=>
    simp[h1,h2] at h;subst h
    by_cases hj:j=k
    ·subst hj;rw[dL];exact .inl rfl
    ·rw[cR _ _ hj,cR _ _ hj];exact ih
   |false=>
    simp[h1,h2] at h;subst h
    by_cases hj:j=k
    ·subst hj;rw[dL,dL];exact .inr ⟨rfl,h2⟩
    ·rw[cR _ _ hj,cR _ _ hj];exact ih
def Env.upd (E:Env) (o b c:Nat):Env:={E with r:=fun l=>if l=o then some (b,c) else E.r l}
structure ku (o:Nat) (E:Env) (w:World) (E':Env) (w':World):Prop where
 r:∀l x,l≠o→E.r l=some x→E'.r l=some x
 H:∀g b,E.H g b→E'.H g b
 heap:∀g b,E.H g b→w'.heap[b]?=w.heap[b]?
 T:∀l b,E.T l b→E'.T l b∧w'.heap[b]?=w.heap[b]?
 Z:∀b,E.Z b→E'.Z b∧nW w w' b
 n:∀l,l≠o→(E'.n l↔E.n l)
theorem zf.turn {cx:Cx} {E E':Env} {w w':World} (s:zf cx E w) {o b c:Nat} (h0:E.r o=some (b,c)) (hT:E'.T=E.T) (hZ:E'.Z=E.Z) (hF:∀b,E'.F b→E.F b∨w.heap.size≤b) (hr:∀o b c,E'.r o=some (b,c)→(∃o' c',E.r o'=some (b,c'))∨w.heap.size≤b)
 (hs:w.heap.size≤w'.heap.size) (hh:∀k,k<w.heap.size→k≠b→w'.heap[k]?=w.heap[k]?):zf cx E' w':=by
 refine⟨fun l k h=>?_,fun l l' k h h'=>?_,fun k h=>?_,fun k h=>?_,fun k h=>s.ze k (hZ▸h)⟩
 ·rw[hT] at h
  obtain⟨⟨h1,h2⟩,h3,h4,h5⟩:=s.tb l k h
  refine⟨⟨by omega,h2⟩,fun hf=>?_,fun o c ho=>?_,h5.of_eq (hh k h1 (fun e=>by subst e;exact h4 o c h0))⟩
  ·rcases hF k hf with k|k
   ·exact h3 k
   ·omega
  ·rcases hr o k c ho with⟨o',c',k⟩|k
   ·exact h4 o' c' k
   ·omega
 ·rw[hT] at h h';exact s.tt l l' k h h'
 ·obtain⟨⟨h1,h2,h2'⟩,h3,h4,h5⟩:=s.zc k h
  refine⟨⟨h1,by omega,h2'⟩,fun hf=>?_,fun o c ho=>?_,h5.of_eq (hh k h2 (fun e=>by subst e;exact h4 o c h0))⟩
  ·rcases hF k hf with k|k
   ·exact h3 k
   ·omega
  ·rcases hr o k c ho with⟨o',c',k⟩|k
   ·exact h4 o' c' k
   ·omega
 ·obtain⟨⟨h1,h2,h2'⟩,h3,h4,h5⟩:=s.zc k h
  exact(s.zs k h).trans (.of_eq (hh k h2 (fun e=>by subst e;exact h4 o c h0)))
theorem gq {l o:Nat} (h:d0 l o=false):l≠o:=fun e=>by subst e;simp at h
theorem D3 {o:Nat} {E E':Env} {w w':World} (x:ku o E w E' w'):∀{c:C} {u:Value},c.has o=false→cvC E w c u→cvC E' w' c u
 | .d g d,u,_,h=>cj (x.heap g) (x.H g) d u h
 | .w l n,u,hl,⟨b,c,h,hu⟩=>⟨b,c,x.r _ _ (gq hl) h,hu⟩
 | .s l sz off len,u,hl,⟨A,c,b,k,h,hu⟩=>⟨A,c,b,k,x.r _ _ (gq hl) h,hu⟩
 | .p l k,u,hl,⟨b,c,h,hu⟩=>⟨b,c,x.r _ _ (gq hl) h,hu⟩
 | .e l sz i j,u,hl,⟨b,c,h,hu⟩=>⟨b,c,x.r _ _ (gq hl) h,hu⟩
 | .q g y j,u,_,⟨b,k,hu,hb,h⟩=>⟨b,k,hu,x.H g b hb,rdL_mono (x.heap g) (x.H g) y b k hb h⟩
 | .fn f,u,_,h=>h
 | .nil,u,_,h=>h
 | .any,u,_,_=>trivial
 | .r l d,u,_,h=>cj (fun b hb=>(x.T l b hb).2) (fun b hb=>(x.T l b hb).1) d u h
 | .z d,u,_,h=>qx (fun b hb=>(x.Z b hb).2) (fun b hb=>(x.Z b hb).1) d u h
 | .zq y j,u,_,⟨b,k,hu,hb,h⟩=>⟨b,k,hu,(x.Z b hb).1,rsL_mono (fun b hb=>(x.Z b hb).2) (fun b hb=>(x.Z b hb).1) y b k hb h⟩
 | .wn l n,u,hl,.inl ⟨h1,h2⟩=>.inl ⟨(x.n l (gq hl)).2 h1,h2⟩
 | .wn l n,u,hl,.inr ⟨h1,b,c,h,hu⟩=>.inr ⟨fun k=>h1 ((x.n l (gq hl)).1 k),b,c,x.r _ _ (gq hl) h,hu⟩
theorem HS {o:Nat} {E E':Env} {w w':World} (x:ku o E w E' w'):∀{cs:List C} {us:List Value},yG o cs=false→CV E w cs us→CV E' w' cs us
 |[],[],_,_=>trivial
 |c::cs,u::us,hl,h=>by
  simp only[yG,Ua] at hl
  exact⟨D3 x hl.1 h.1,HS x hl.2 h.2⟩
 |[],_::_,_,h=>h.elim
 |_::_,[],_,h=>h.elim
theorem Js {o:Nat} {E E':Env} {w w':World} (x:ku o E w E' w') {v:V} {u:Value} (hl:v.has o=false) (h:cvV E w v u):cvV E' w' v u:=by
 cases v with
 |c c=>exact D3 x hl h
 |agg cs=>obtain⟨arr,hu,h⟩:=h;exact⟨arr,hu,HS x hl h⟩
theorem Mk {o:Nat} {E E':Env} {w w':World} (x:ku o E w E' w'):∀{cs:List V} {us:List Value},CW o cs=false→VV E w cs us→VV E' w' cs us
 |[],[],_,_=>trivial
 |c::cs,u::us,hl,h=>by
  simp only[CW,Ua] at hl
  exact⟨Js x hl.1 h.1,Mk x hl.2 h.2⟩
 |[],_::_,_,h=>h.elim
 |_::_,[],_,h=>h.elim
theorem D4 {o:Nat} {E E':Env} {w w':World} (x:ku o E w E' w') {t:T} {u:Value} (hl:t.has o=false) (h:cvT E w t u):cvT E' w' t u:=by
 cases t with
 |v v=>exact Js x hl h
 |tup ts=>obtain⟨arr,hu,h⟩:=h;exact⟨arr,hu,Mk x hl h⟩
 |any=>trivial
theorem uk {o:Nat} {E E':Env} {w w':World} (x:ku o E w E' w'):∀{cs cs':List C} {us:List Value},yJ o cs=some cs'→CV E w cs us→CV E' w' cs' us
 |[],cs',us,h,hc=>by simp[yJ] at h;subst h;cases us with
  |nil=>trivial
  |cons _ _=>exact hc.elim
 |c::cs,cs',us,h,hc=>by
  cases us with
  |nil=>exact hc.elim
  |cons u us=>
   simp only[yJ] at h
   cases h1:yJ o cs with
   |none=>simp[h1] at h
   |some r=>
    cases h2:c.has o with
    |true=>simp[h1,h2] at h;subst h;exact⟨trivial,uk x h1 hc.2⟩
    |false=>simp[h1,h2] at h;subst h;exact⟨D3 x h2 hc.1,uk x h1 hc.2⟩
theorem qp {o:Nat}:∀{ob ob':List (Nat×Ob)},kj o ob=some ob'→∀{l:Nat} {x:Ob},go ob' l=some x→
 (∃t cs cs',go ob l=some (.var t cs)∧yJ o cs=some cs'∧x= .var t cs')∨(∃t sz els g m,go ob l=some (.row t sz els g m)∧x= .row t sz els g m)∨(∃t sz els g,go ob l=some (.rown t sz els g)∧x= .rown t sz els g)∨(∃k y,go ob l=some (.abs k y)∧x= .abs k y)
 |[],ob',h,l,x,hl=>by simp[kj] at h;subst h;cases hl
 |(k,.var t cs)::r,ob',h,l,x,hl=>by
  simp only[kj] at h
  cases h1:kj o r with
  |none=>simp[h1] at h
  |some r'=>
   cases h2:yJ o cs with
   |none=>simp[h1,h2] at h
   |some cs'=>
    simp[h1,h2] at h;subst h
    by_cases hk:k=l
    ·subst hk;rw[cg] at hl ⊢;cases hl;exact .inl ⟨t,cs,cs',rfl,h2,rfl⟩
    ·rw[bA _ _ hk] at hl ⊢;exact qp h1 hl
 |(k,.row t sz els g m)::r,ob',h,l,x,hl=>by
  simp only[kj] at h
  cases h1:kj o r with
  |none=>simp[h1] at h
  |some r'=>
   simp[h1] at h;subst h
   by_cases hk:k=l
   ·subst hk;rw[cg] at hl ⊢;cases hl;exact .inr (.inl ⟨t,sz,els,g,m,rfl,rfl⟩)
   ·rw[bA _ _ hk] at hl ⊢;exact qp h1 hl
 |(k,.rown t sz els g)::r,ob',h,l,x,hl=>by
  simp only[kj] at h
  cases h1:kj o r with
  |none=>simp[h1] at h
  |some r'=>
   simp[h1] at h;subst h
   by_cases hk:k=l
   ·subst hk;rw[cg] at hl ⊢;cases hl;exact .inr (.inr (.inl ⟨t,sz,els,g,rfl,rfl⟩))
   ·rw[bA _ _ hk] at hl ⊢;exact qp h1 hl
 |(k,.abs j y)::r,ob',h,l,x,hl=>by
  simp only[kj] at h
  cases h1:kj o r with
  |none=>simp[h1] at h
  |some r'=>
   simp[h1] at h;subst h
   by_cases hk:k=l
   ·subst hk;rw[cg] at hl ⊢;cases hl;exact .inr (.inr (.inr ⟨j,y,rfl,rfl⟩))
   ·rw[bA _ _ hk] at hl ⊢;exact qp h1 hl
section
variable {P:Program} {N:Nat} {d:Tmp} {ty:TypeId} {ps:String} {af:Array Edge} {gd:Option (Nat×Bool)} {x y z:Operand} {st:St}
inductive Src (ob:List (Nat×Ob)):C→List (List D)→Bool→Prop
 |d {g:Bool} {ys:List (List D)}:Src ob (.d g (.l ys)) ys g
 |nil:Src ob .nil [] true
 |w {o n:Nat} {t sz:Nat} {els:List (List D)} {g m:Bool} (h:go ob o=some (.row t sz els g m)) (hn:els.length=n):Src ob (.w o n) els g
 |s {o off len:Nat} {t sz:Nat} {els:List (List D)} {g m:Bool} (h:go ob o=some (.row t sz els g m)) (hn:off+len≤els.length):Src ob (.s o sz off len) ((els.drop off).take len) g
 |wn {o n:Nat} {t sz:Nat} {els:List (List D)} {g:Bool} (h:go ob o=some (.rown t sz els g)) (hn:els.length=n):Src ob (.wn o n) els g
theorem zT {E:Env} {w:World} {nob:List (Nat×Ob)} (hob:∀l x,go nob l=some x→cy E w l x) {c:C} {ys:List (List D)} {g:Bool} {u:Value} (h:Src nob c ys g) (hu:cvC E w c u):
 ∃A k,u= .slice A ys.length k∧ys.length≤k∧(ys=[]∨∃b off,A=some ⟨b,off,none⟩∧rdLL w (E.H g) ys b off):=by
 cases h with
 |d=>
  simp only[cvC,rdD] at hu
  obtain⟨A,c,rfl,h1,h2⟩:=hu
  refine⟨A,c,rfl,h1,?_⟩
  rcases h2 with h2|⟨b,off,h3,_,h4⟩
  ·exact .inl h2
  ·exact .inr ⟨b,off,h3,h4⟩
 |nil=>have:u= .slice none 0 0:=hu;subst this;exact⟨none,0,rfl,Tt _,.inl rfl⟩
 |w h hn=>
  obtain⟨b,c,hr,rfl⟩:=hu
  obtain⟨b',c',arr,hr',hh,ha,hlc,hmx,hes,hrd,_⟩:=hob _ _ h
  rw[hr] at hr';cases hr'
  exact⟨_,_,by rw[hn],hlc,.inr ⟨b,0,rfl,hrd⟩⟩
 |s h hn=>
  rename_i o off len t sz els m
  obtain⟨A,c,b,k,hr,rfl,hlc',hA⟩:=hu
  obtain⟨b',c',arr,hr',hh,ha,hlc,hmx,hes,hrd,_⟩:=hob _ _ h
  rw[hr] at hr';cases hr'
  have hl:((els.drop off).take len).length=len:=by simp;omega
  refine⟨A,c,by rw[hl],by rw[hl];exact hlc',?_⟩
  rcases hA with h0|h0
  ·left;exact Ui (by rw[hl];exact h0)
  ·right;exact⟨b,off*sz,h0,by simpa using nR len (yf hrd hes off)⟩
 |wn h hn=>
  rcases hu with⟨h0,rfl,rfl⟩|⟨h0,b,c,hr,rfl⟩
  ·exact⟨none,0,by rw[hn],by omega,.inl (Ui hn)⟩
  ·rcases hob _ _ h with⟨h1,_⟩|⟨_,b',c',arr,hr',hh,ha,hlc,hmx,hes,hrd,_⟩
   ·exact absurd h1 h0
   ·rw[hr] at hr';cases hr'
    exact⟨_,_,by rw[hn],hlc,.inr ⟨b,0,rfl,hrd⟩⟩
theorem OJ {cx:Cx} {E:Env} {a:Act} {w:World} (hR:Rel N cx E st a w) {c:C} {ys:List (List D)} {g:Bool} {u:Value} (h:Src st.ob c ys g) (hu:cvC E w c u):
 ∃A k,u= .slice A ys.length k∧ys.length≤k∧(ys=[]∨∃b off,A=some ⟨b,off,none⟩∧rdLL w (E.H g) ys b off):=
 zT (fun l x h=>hR.obs l x h) h hu
theorem oy {base:Nat} {t ty e:TypeId} {i:TypeInfo} {size:Nat} (w:World) (ht:P.underlying t=some (.slice e)) (hi:P.info? e=some i)
 {v:Value} {n:Nat} {xs:List Value} (hown:w.ownsRow base e size v n xs) (c:Nat):(Builtin.append_ #[t,t] ty #[v,.slice none 0 c]).run P w= .ok v w:=by
 rcases hown.2 with⟨rfl,rfl⟩|⟨g,cap,cur,rfl,_,_,hnc,_⟩
 ·simp[Builtin.append_,run_underlying ht,sizeOf,typeInfo,hi,Builtin.lenOf,Builtin.firstCells]
 ·simp[Builtin.append_,run_underlying ht,sizeOf,typeInfo,hi,Builtin.lenOf,Builtin.firstCells,hnc,storeCells]
theorem tp {w:World} {F:Nat→Prop} {e:List D} {b k:Nat} (h:rdL w F e b k):∃us:List Value,us.length=e.length∧(∀(j:Nat) (u:Value),us[j]?=some u→w.cell? ((⟨b,k,none⟩:Addr).add j)=some u)∧
 (∀u∈us,u.oneCell'=true)∧∀(j:Nat) (xd:D),e[j]?=some xd→∃u,us[j]?=some u∧rdD w F xd u:=by
 obtain⟨us,h1,h2,h3⟩:=w6 h
 refine⟨us,h1,fun j u hj=>by rw[sH];exact h2 j u hj,fun u hu=>?_,h3⟩
 obtain⟨j,hj⟩:=T0 hu
 have hjl:j<us.length:=(Tm.1 hj).1
 obtain⟨v,k1,k2⟩:=h3 j e[j] (v0 (by omega))
 rw[hj] at k1;cases k1
 exact ro k2
theorem yD {cx:Cx} {E:Env} {a:Act} {w:World} (hR:Rel N cx E st a w) {t:TypeId} {e sz by_ o n:Nat} {els ys:List (List D)} {g gy:Bool} {c:C} {sl':List (Nat×T)} {ob':List (Nat×Ob)} [ht:TySl P t e sz by_] (hrv:rsp o=false) (hd:d<N)
 {b cc:Nat} {arr:Array Value} (hr:E.r o=some (b,cc)) (hu:a.eval x= .slice (some ⟨b,0,none⟩) n cc) (hh:w.heap[b]?=some (.cells arr e (0,0))) (ha:arr.size=cc*sz) (hlc:els.length≤cc) (hmx:cc≤maxLen) (hes:∀e∈els,e.length=sz) (hrd:rdLL w (E.H g) els b 0) (hF:¬E.F b)
 (hy:opT st.sl y= .v (.c c)) (hs:Src st.ob c ys gy) (hk:mn o st.sl=some sl') (hkb:kj o st.ob=some ob')
 (hn:els.length=n) (hsz:∀e∈ys,e.length=sz) (hb:(n+ys.length)*by_≤140737488355328) (h63:n+ys.length≤9223372036854775807):
 Oper.wp P ⟨some d,.call ⟨.builtin .append,#[x,y],#[t,t]⟩,ty,ps,af,gd⟩ a w (fun a' w'=>∃E',Rel N cx E' ⟨(d,.v (.c (.w o (n+ys.length))))::sl',(o,.row e sz (els++ys) (g&&gy) true)::ob',st.nx⟩ a' w') (fun _ _ _=>False):=by
 have h2:=hR.op y;rw[hy] at h2
 obtain⟨A,k,hv,hyk,hA⟩:=OJ hR hs h2
 obtain⟨ii,zz,i1,i2,i3,i4,i5⟩:=ht.i
 have hbl:=(hR.ok.rb o b cc hr)
 have hown:w.ownsRow 0 e sz (.slice (some ⟨b,0,none⟩) n cc) n (arr.toList.take (n*sz)):=
  ⟨by simp[ha];rw[Ul (by omega)],.inr ⟨b,cc,arr,rfl,Ud _,hh,by omega,hmx,ha,rfl⟩⟩
 have hsrc:∃news:List Value,news.length=ys.length*sz∧(∀u∈news,u.oneCell'=true)∧(∀(j:Nat) (xd:D),ys.flatten[j]?=some xd→∃u,news[j]?=some u∧rdD w (E.H gy) xd u)∧
  ∃v' w',(Builtin.append_ #[t,t] ty #[.slice (some ⟨b,0,none⟩) n cc,.slice A ys.length k]).run P w= .ok v' w'∧w'.ownsRow 0 e sz v' (n+ys.length) (arr.toList.take (n*sz)++news)∧w.grownBy w' (some b)∧v'≠.slice none 0 0∧(v'.ownBlock=some b∨v'.ownBlock=some w.heap.size):=by
  have hgood:∀ad,A=some ad→∀news:List Value,news.length=ys.length*sz→(∀(j:Nat) (u:Value),news[j]?=some u→w.cell? (ad.add j)=some u)→(∀u∈news,u.oneCell'=true)→
   ∃v' w',(Builtin.append_ #[t,t] ty #[.slice (some ⟨b,0,none⟩) n cc,.slice A ys.length k]).run P w= .ok v' w'∧w'.ownsRow 0 e sz v' (n+ys.length) (arr.toList.take (n*sz)++news)∧w.grownBy w' (some b)∧v'≠.slice none 0 0∧(v'.ownBlock=some b∨v'.ownBlock=some w.heap.size):=by
   intro ad hAd news n1 n2 n3
   obtain⟨v',w',r1,r2,r3,r4,r5⟩:=run_append_own_at (P:=P) w 0 t ty e ii zz sz by_ ht.u i1 i4 i2 i3 i5 ht.p _ n _ hown ad ys.length k news n1 n2 n3 (by unfold maxLen;omega) hb (Ud _)
   exact⟨v',w',by rw[hAd];exact r1,r2,r3,(fun h=>by have h9:=(r4.1 h).1;simp at h9),r5⟩
  rcases hA with h0|⟨b2,off,rfl,hrd2⟩
  ·subst h0
   refine⟨[],by simp,by simp,by simp,?_⟩
   cases A with
   |none=>exact⟨_,w,oy w ht.u i1 hown k,by simpa using hown,⟨rfl,rfl,rfl,Tt _,fun _ _ _=>rfl⟩,by simp,.inl rfl⟩
   |some ad=>exact hgood ad rfl [] (by simp) (by simp) (by simp)
  ·obtain⟨us,q1,q2,q3,q4⟩:=tp (eX.1 hrd2)
   exact⟨us,by rw[q1,gE hsz],q3,q4,hgood _ rfl us (by rw[q1,gE hsz]) q2 q3⟩
 obtain⟨news,n1,n2,n3,v',w',r1,r2,r3,r4,r5⟩:=hsrc
 obtain⟨_,r2⟩:=r2
 rcases r2 with⟨rfl,_⟩|⟨bn,cap,cur,rfl,_,hhn,hcap,hcapm,hcur,htk⟩
 ·exact absurd rfl r4
 unfold Oper.wp
 simp only[execOp,resolve,invoke,builtin,Sem.run_bind,Sem.run_pure,Result.andThen_ok,List.map_toArray,List.map_cons,List.map_nil,hu,hv,r1,Oper.upon_value]
 have hbn:bn=b∨bn=w.heap.size:=by simpa [Value.ownBlock] using r5
 have hsame:∀k,k<w.heap.size→k≠b→w'.heap[k]?=w.heap[k]?:=fun k hk hne=>r3.block k hk (fun e=>hne (by injection e))
 have hnF:¬E.F bn:=by
  rcases hbn with rfl|rfl
  ·exact hF
  ·exact fun h=>by have:=hR.ok.fb _ h;omega
 have hbig:bn<w'.heap.size:=by
  rcases T9 bn w'.heap.size with h|h
  ·exact h
  ·rw[Ub h] at hhn;cases hhn
 have hnew:∀l bl cl,l≠o→E.r l=some (bl,cl)→bl≠bn:=by
  intro l bl cl hne hl e
  subst e
  rcases hbn with h|h
  ·subst h;exact hne (hR.ok.inj l o _ _ _ hl hr)
  ·have:=(hR.ok.rb l bl cl hl).1;omega
 have hHb:∀g k,E.H g k→k≠b∧k<w.heap.size:=fun g k hk=>⟨fun e=>by subst e;cases g;exact hF hk;exact hF (hR.ok.gf _ hk),hR.ok.hb hk⟩
 have kb:ku o E w (E.upd o bn cap) w':=⟨fun l x hne hl=>by simp only[Env.upd];rw[if_neg hne];exact hl,fun _ _ h=>h,fun g k hk=>hsame k (hHb g k hk).2 (hHb g k hk).1,fun l k hk=>⟨hk,hsame k (hR.ok.sf.tb l k hk).1.1 (fun e=>by subst e;exact(hR.ok.sf.tb l k hk).2.2.1 o _ hr)⟩,fun k hk=>⟨hk,.of_eq (hsame k (hR.ok.sf.zb k hk).1.2.1 (fun e=>by subst e;exact(hR.ok.sf.zb k hk).2.2.1 o _ hr))⟩,fun _ _=>Iff.rfl⟩
 refine⟨E.upd o bn cap,⟨fun k hk=>Uc (hR.ok.fb k hk) r3.size,hR.ok.gf,hR.ok.gn,fun l bl cl hl=>?_,fun l l' bl cl cl' hl hl'=>?_,by rw[r3.os];exact hR.ok.os,by rw[r3.tape];exact hR.ok.tape,by rw[r3.output];exact hR.ok.output,Nat.le_trans hR.ok.size r3.size,fun k hk hW=>?_,fun l xx hv hl=>by
  simp only[Env.upd] at hl
  split at hl
  ·rename_i e;rw[e,hrv] at hv;cases hv
  ·exact hR.ok.pin l xx hv hl,hR.ok.ff,fun k hk hk'=>(hR.ok.gc k hk hk').of_eq (hsame k (hHb false k hk).2 (hHb false k hk).1),hR.ok.sf.turn hr rfl rfl (fun _ h=>.inl h) (fun l bl cl hl=>by
   simp only[Env.upd] at hl
   split at hl
   ·cases hl
    rcases hbn with h|h
    ·left;exact⟨o,_,h▸hr⟩
    ·right;omega
   ·exact .inl ⟨l,cl,hl⟩) r3.size hsame⟩,fun l xx hl=>?_,fun l ob hl=>?_,fun k=>?_,hR.dfr,by simpa [Act.put] using hR.size,hR.td⟩
 ·simp only[Env.upd] at hl
  split at hl
  ·rename_i elo
   cases hl
   refine⟨hbig,?_⟩
   rcases hbn with h|h
   ·rw[h,elo];exact hbl.2
   ·left;rw[h];exact hR.ok.size
  ·have:=hR.ok.rb l bl cl hl;exact⟨Uc this.1 r3.size,this.2⟩
 ·simp only[Env.upd] at hl hl'
  split at hl<;>split at hl'
  ·omega
  ·cases hl;rename_i e1 e2;exact absurd rfl (hnew l' _ _ e2 hl')
  ·cases hl';rename_i e1 e2;exact absurd rfl (hnew l _ _ e1 hl)
  ·exact hR.ok.inj l l' bl cl cl' hl hl'
 ·have hkb':k≠b:=fun e=>by
   subst e
   rcases hbl.2 with h|h
   ·omega
   ·exact hW h.1
  rw[hsame k (by have:=hR.ok.size;omega) hkb'];exact hR.ok.block k hk hW
 ·simp only[Env.upd] at hl
  split at hl
  ·rename_i e;subst e;exact hR.dom _ _ hr
  ·exact hR.dom l _ hl
 ·by_cases hlo:o=l
  ·subst hlo
   rw[cg] at hl;cases hl
   have hall:∀e'∈els++ys,e'.length=sz:=fun e' he'=>by
    rcases TW.1 he' with h|h
    ·exact hes e' h
    ·exact hsz e' h
   refine⟨bn,cap,cur,by simp[Env.upd],hhn,hcur,by simp;omega,hcapm,hall,?_,fun _=>hnF,fun h=>by cases h⟩
   rw[eX]
   refine lJ fun j xd hj=>?_
   rw[Tv,et hhn]
   rw[List.flatten_append] at hj
   have hfl:els.flatten.length=n*sz:=by rw[gE hes,hn]
   have hxs:(arr.toList.take (n*sz)).length=n*sz:=by simp[ha];rw[Ul (by omega)]
   have hcurj:∀u,(arr.toList.take (n*sz)++news)[j]?=some u→cur[j]?=some u:=by
    intro u hu
    rw[←htk,TB] at hu
    split at hu
    ·simpa using hu
    ·cases hu
   by_cases hjn:j<n*sz
   ·rw[Tu (by omega)] at hj
    obtain⟨u,u1,u2⟩:=kF (eX.1 hrd) hj
    rw[Tv,et hh] at u1
    refine⟨u,hcurj u ?_,cj (kb.heap _) (kb.H _) _ _ (mY hR.ok u2 (by simp;intro a _;exact a))⟩
    rw[Tu (by omega),TB,if_pos hjn]
    simpa using u1
   ·rw[Tz (by omega),hfl] at hj
    obtain⟨u,u1,u2⟩:=n3 _ _ hj
    refine⟨u,hcurj u ?_,cj (kb.heap _) (kb.H _) _ _ (mY hR.ok u2 (by simp))⟩
    rw[Tz (by omega),hxs]
    exact u1
  ·rw[bA _ _ hlo] at hl
   rcases qp hkb hl with⟨t',cs,cs',k1,k2,rfl⟩|⟨t',sz',els',g',m',k1,rfl⟩|⟨t',sz',els',g',k1,rfl⟩|⟨j',y',k1,rfl⟩
   ·obtain⟨bl,cl,arrl,l1,l2,l3,l4⟩:=hR.obs l _ k1
    have hne:bl≠b:=fun e=>hlo (by subst e;exact hR.ok.inj _ _ _ _ _ hr l1)
    exact⟨bl,cl,arrl,kb.r _ _ (Ne.symm hlo) l1,(hsame bl (hR.ok.rb _ _ _ l1).1 hne).trans l2,uk kb k2 l3,l4⟩
   ·obtain⟨bl,cl,arrl,l1,l2,l3,l4,l5,l6,l7,l8,l9⟩:=hR.obs l _ k1
    have hne:bl≠b:=fun e=>hlo (by subst e;exact hR.ok.inj _ _ _ _ _ hr l1)
    have hb2:=hsame bl (hR.ok.rb _ _ _ l1).1 hne
    exact⟨bl,cl,arrl,kb.r _ _ (Ne.symm hlo) l1,hb2.trans l2,l3,l4,l5,l6,cm (kb.heap _) (kb.H _) hb2 _ _ l7,l8,l9⟩
   ·rcases hR.obs l _ k1 with h|⟨l0,bl,cl,arrl,l1,l2,l3,l4,l5,l6,l7,l8⟩
    ·exact .inl h
    ·have hne:bl≠b:=fun e=>hlo (by subst e;exact hR.ok.inj _ _ _ _ _ hr l1)
     have hb2:=hsame bl (hR.ok.rb _ _ _ l1).1 hne
     exact .inr ⟨l0,bl,cl,arrl,kb.r _ _ (Ne.symm hlo) l1,hb2.trans l2,l3,l4,l5,l6,cm (kb.heap _) (kb.H _) hb2 _ _ l7,l8⟩
   ·rcases hR.obs l _ k1 with h|⟨l0,bl,cl,l1,l2,l3⟩
    ·exact .inl h
    ·have hne:bl≠b:=fun e=>hlo (by subst e;exact hR.ok.inj _ _ _ _ _ hr l1)
     have hb2:=hsame bl (hR.ok.rb _ _ _ l1).1 hne
     exact .inr ⟨l0,bl,cl,kb.r _ _ (Ne.symm hlo) l1,y'.st _ _ _ _ _ _ l2 (fun k hk=>(kb.T _ k hk).1) hb2 (fun k hk=>(kb.T _ k hk).2),l3⟩
 ·rw[fO (by rw[hR.size];exact hd)]
  by_cases hdk:d=k
  ·subst hdk;rw[dL,if_pos rfl];exact⟨bn,cap,by simp[Env.upd],rfl⟩
  ·rw[cR _ _ hdk,if_neg hdk]
   rcases tf hk k with h|⟨h,h'⟩
   ·rw[h];trivial
   ·rw[h];exact D4 kb h' (hR.sl k)
theorem It {t:TypeId} {e sz by_ o n:Nat} {els ys:List (List D)} {g gy:Bool} {c:C} {sl':List (Nat×T)} {ob':List (Nat×Ob)} [ht:TySl P t e sz by_] (hrv:rsp o=false) (hd:d<N)
 (hx:opT st.sl x= .v (.c (.w o n))) (hy:opT st.sl y= .v (.c c)) (ho:go st.ob o=some (.row e sz els g true)) (hs:Src st.ob c ys gy) (hk:mn o st.sl=some sl') (hkb:kj o st.ob=some ob')
 (hn:els.length=n) (hsz:∀e∈ys,e.length=sz) (hb:(n+ys.length)*by_≤140737488355328) (h63:n+ys.length≤9223372036854775807):
 AWO P N ⟨some d,.call ⟨.builtin .append,#[x,y],#[t,t]⟩,ty,ps,af,gd⟩ st ⟨(d,.v (.c (.w o (n+ys.length))))::sl',(o,.row e sz (els++ys) (g&&gy) true)::ob',st.nx⟩:=by
 intro cx E a w hR
 have h1:=hR.op x;rw[hx] at h1
 obtain⟨b,cc,hr,hu⟩:=h1
 obtain⟨b',c',arr,hr',hh,ha,hlc,hmx,hes,hrd,hFm,_⟩:=hR.obs o _ ho
 rw[hr] at hr';cases hr'
 exact yD hR hrv hd hr hu hh ha hlc hmx hes hrd (hFm rfl) hy hs hk hkb hn hsz hb h63
end
end Go.AM
namespace Go.AM
open Go.RowKit
inductive AV where
 |c (x:D)
 |agg (xs:List D)
inductive RC where
 |d (x:D)
 |own (ty sz:Nat) (els:List (List D)) (n:Nat)
 |nil
inductive RV where
 |c (x:RC)
 |agg (xs:List RC)
abbrev aI (n:Int):AV:=.c (.i .i64 n)
abbrev aB (b:Bool):AV:=.c (.b b)
abbrev aL (xs:List (List D)):AV:=.c (.l xs)
abbrev rB (b:Bool):RV:=.c (.d (.b b))
def DV (w:World) (F:Nat→Prop):List D→List Value→Prop
 |[],[]=>True
 |x::xs,u::us=>rdD w F x u∧DV w F xs us
 |_,_=>False
def avR (w:World) (F:Nat→Prop):AV→Value→Prop
 | .c x,u=>rdD w F x u
 | .agg xs,u=>∃arr,u= .agg arr∧DV w F xs arr.toList
def AR (w:World) (F:Nat→Prop):List AV→List Value→Prop
 |[],[]=>True
 |x::xs,u::us=>avR w F x u∧AR w F xs us
 |_,_=>False
def rcR (w:World) (G:Nat→Prop) (base:Nat):RC→Value→List (Nat×Nat)→Prop
 | .d x,u,bs=>bs=[]∧rdD w G x u
 | .own ty sz els n,u,bs=>∃b c arr,bs=[(b,c)]∧u= .slice (some ⟨b,0,none⟩) n c∧w.heap[b]?=some (.cells arr ty (0,0))∧arr.size=c*sz∧els.length≤c∧c≤maxLen∧
  (∀e∈els,e.length=sz)∧rdLL w G els b 0∧¬G b∧base≤b
 | .nil,u,bs=>bs=[]∧u= .slice none 0 0
def Cl (w:World) (G:Nat→Prop) (base:Nat):List RC→List Value→List (Nat×Nat)→Prop
 |[],[],bs=>bs=[]
 |r::rs,u::us,bs=>∃b1 b2,bs=b1++b2∧rcR w G base r u b1∧Cl w G base rs us b2
 |_,_,_=>False
def rvR (w:World) (G:Nat→Prop) (base:Nat):RV→Value→List (Nat×Nat)→Prop
 | .c r,u,bs=>rcR w G base r u bs
 | .agg rs,u,bs=>∃arr,u= .agg arr∧Cl w G base rs arr.toList bs
def zk (w:World) (G:Nat→Prop) (base:Nat):List RV→List Value→List (Nat×Nat)→Prop
 |[],[],bs=>bs=[]
 |r::rs,u::us,bs=>∃b1 b2,bs=b1++b2∧rvR w G base r u b1∧zk w G base rs us b2
 |_,_,_=>False
def vJ (w:World) (G:Nat→Prop) (base:Nat):List RV→Value→List (Nat×Nat)→Prop
 |[r],v,bs=>rvR w G base r v bs
 |rs,v,bs=>∃arr,v= .tuple arr∧zk w G base rs arr.toList bs
structure DN (w w':World) (W:Nat→Prop):Prop where
 os:w'.os=w.os
 tape:w'.tape=w.tape
 output:w'.output=w.output
 size:w.heap.size≤w'.heap.size
 block:∀b,b<w.heap.size→¬W b→w'.heap[b]?=w.heap[b]?
structure Fn (P:Program) (f:FuncId) (args:List AV) (res:List RV):Prop where
 enters:∀(vs:Array Value) (w:World),(callFunc f vs).run P w= .ok (.enter f vs) w
 calls:∀(F:Nat→Prop) (w:World) (vals:Array Value),(∀b,F b→b<w.heap.size)→TabsIn w→AR w F args vals.toList→
  Calls P f vals w fun e w'=>∃v G bs,e= .returned v∧DN w w' (fun _=>False)∧(∀b,G b→w.heap.size≤b∧b<w'.heap.size∧gA w' b)∧vJ w' G w.heap.size res v bs∧(bs.map (·.1)).Nodup
inductive Mh (P:Program) (st:St):ResultVar→V→Prop
 |tmp {k:Tmp} {v:V} (h:gt st.sl k= .v v):Mh P st (.tmp k) v
 |cell {p:Tmp} {t n o:Nat} {vt:TypeId} {cs:List C} [ht:TyAg P t n] (h:gt st.sl p= .v (.c (.p o 0))) (ho:go st.ob o=some (.var vt cs)) (hn:d0 cs.length n=true):Mh P st (.cell p t) (.agg cs)
 |cell1 {p:Tmp} {t o:Nat} {vt:TypeId} {c:C} [ht:TySc P t] (h:gt st.sl p= .v (.c (.p o 0))) (ho:go st.ob o=some (.var vt [c])):Mh P st (.cell p t) (.c c)
inductive mU (P:Program) (st:St):List ResultVar→List V→Prop
 |nil:mU P st [] []
 |cons {r:ResultVar} {rs:List ResultVar} {v:V} {vs:List V} (h:Mh P st r v) (h':mU P st rs vs):mU P st (r::rs) (v::vs)
def sS (ob:List (Nat×Ob)):C→Option (RC×List Nat)
 | .d _ (.i k n)=>some (.d (.i k n),[])
 | .d _ (.b x)=>some (.d (.b x),[])
 | .d _ (.str s)=>some (.d (.str s),[])
 | .d true (.l xs)=>some (.d (.l xs),[])
 | .w o n=>match go ob o,rsv o with
  |some (.row ty sz els true true),false=>some (.own ty sz els n,[o])
  |_,_=>none
 | .nil=>some (.nil,[])
 |_=>none
def yF (ob:List (Nat×Ob)):List C→Option (List RC×List Nat)
 |[]=>some ([],[])
 |c::cs=>match sS ob c,yF ob cs with
  |some (r,l),some (rs,ls)=>some (r::rs,l++ls)
  |_,_=>none
def Ic (ob:List (Nat×Ob)):V→Option (RV×List Nat)
 | .c c=>match sS ob c with
  |some (r,l)=>some (.c r,l)
  |none=>none
 | .agg cs=>match yF ob cs with
  |some (r,l)=>some (.agg r,l)
  |none=>none
def uY (ob:List (Nat×Ob)):List V→Option (List RV×List Nat)
 |[]=>some ([],[])
 |c::cs=>match Ic ob c,uY ob cs with
  |some (r,l),some (rs,ls)=>some (r::rs,l++ls)
  |_,_=>none
def lG:List Nat→Bool
 |[]=>true
 |x::xs=>!(xs.any (d0 x))&&lG xs
theorem ij:∀{l:List Nat},lG l=true→l.Nodup
 |[],_=>List.nodup_nil
 |x::xs,h=>by
  simp only[lG,hV,Ue] at h
  refine Un.2 ⟨fun hm=>?_,ij h.2⟩
  have:xs.any (d0 x)=true:=Ug.2 ⟨x,hm,by simp⟩
  rw[this] at h;exact absurd h.1 (by simp)
def Fin (P:Program) (rs:List ResultVar) (res:List RV) (s:St):Prop:=∃vs ls,mU P s rs vs∧uY s.ob vs=some (res,ls)∧lG ls=true
theorem JB {N:Nat} {cx:Cx} {E:Env} {st:St} {a:Act} {w:World} (hR:Rel N cx E st a w) {c:C} {r:RC} {ls:List Nat} {u:Value} (h:sS st.ob c=some (r,ls)) (hc:cvC E w c u):
 ∃bs,rcR w E.G cx.w0.heap.size r u bs∧bs.length=ls.length∧∀(i:Nat) (l:Nat),ls[i]?=some l→∃p,bs[i]?=some p∧E.r l=some p:=by
 cases c with
 |d g x=>
  cases x with
  |i k n=>simp[sS] at h;obtain⟨rfl,rfl⟩:=h;exact⟨[],⟨rfl,by simp only[cvC,rdD] at hc ⊢;exact hc⟩,rfl,by simp⟩
  |b k=>simp[sS] at h;obtain⟨rfl,rfl⟩:=h;exact⟨[],⟨rfl,by simp only[cvC,rdD] at hc ⊢;exact hc⟩,rfl,by simp⟩
  |str k=>simp[sS] at h;obtain⟨rfl,rfl⟩:=h;exact⟨[],⟨rfl,by simp only[cvC,rdD] at hc ⊢;exact hc⟩,rfl,by simp⟩
  |l xs=>
   cases g with
   |false=>simp[sS] at h
   |true=>simp[sS] at h;obtain⟨rfl,rfl⟩:=h;exact⟨[],⟨rfl,hc⟩,rfl,by simp⟩
  |k A n c=>simp[sS] at h
 |w o n=>
  simp only[sS] at h
  split at h
  ·rename_i ty sz els ho hrv
   simp at h;obtain⟨rfl,rfl⟩:=h
   obtain⟨b,c,hr,rfl⟩:=hc
   obtain⟨b',c',arr,hr',hh,ha,hlc,hmx,hes,hrd,hFm,_⟩:=hR.obs o _ ho
   rw[hr] at hr';cases hr'
   refine⟨[(b,c)],⟨b,c,arr,rfl,rfl,hh,ha,hlc,hmx,hes,hrd,fun hg=>hFm rfl (hR.ok.gf b hg),((hR.ok.rb o b c hr).2).resolve_right (fun h=>by rw[hrv] at h;cases h.2)⟩,rfl,fun i l hi=>?_⟩
   cases i with
   |zero=>simp at hi;subst hi;exact⟨(b,c),rfl,hr⟩
   |succ i=>simp at hi
  ·cases h
 |nil=>simp[sS] at h;obtain⟨rfl,rfl⟩:=h;exact⟨[],⟨rfl,hc⟩,rfl,by simp⟩
 |_=>simp[sS] at h
theorem JR {E:Env} {b1 b2:List (Nat×Nat)} {l1 l2:List Nat} (h1:b1.length=l1.length) (k1:∀(i:Nat) (l:Nat),l1[i]?=some l→∃p,b1[i]?=some p∧E.r l=some p)
 (k2:∀(i:Nat) (l:Nat),l2[i]?=some l→∃p,b2[i]?=some p∧E.r l=some p):∀(i:Nat) (l:Nat),(l1++l2)[i]?=some l→∃p,(b1++b2)[i]?=some p∧E.r l=some p:=by
 intro i l hi
 by_cases hil:i<l1.length
 ·rw[Tu hil] at hi;rw[Tu (by omega)];exact k1 i l hi
 ·rw[Tz (by omega)] at hi;rw[Tz (by omega),h1];exact k2 _ l hi
theorem F9 {N:Nat} {cx:Cx} {E:Env} {st:St} {a:Act} {w:World} (hR:Rel N cx E st a w):∀{cs:List C} {rs:List RC} {ls:List Nat} {us:List Value},yF st.ob cs=some (rs,ls)→CV E w cs us→
 ∃bs,Cl w E.G cx.w0.heap.size rs us bs∧bs.length=ls.length∧∀(i:Nat) (l:Nat),ls[i]?=some l→∃p,bs[i]?=some p∧E.r l=some p
 |[],rs,ls,us,h,hc=>by
  simp[yF] at h;obtain⟨rfl,rfl⟩:=h
  cases us with
  |nil=>exact⟨[],rfl,rfl,by simp⟩
  |cons _ _=>exact hc.elim
 |c::cs,rs,ls,us,h,hc=>by
  cases us with
  |nil=>exact hc.elim
  |cons u us=>
   simp only[yF] at h
   split at h
   ·rename_i r l rs' ls' h1 h2
    simp at h;obtain⟨rfl,rfl⟩:=h
    obtain⟨b1,k1,k2,k3⟩:=JB hR h1 hc.1
    obtain⟨b2,m1,m2,m3⟩:=F9 hR h2 hc.2
    exact⟨b1++b2,⟨b1,b2,rfl,k1,m1⟩,by simp[k2,m2],JR k2 k3 m3⟩
   ·cases h
theorem PU {N:Nat} {cx:Cx} {E:Env} {st:St} {a:Act} {w:World} (hR:Rel N cx E st a w) {v:V} {r:RV} {ls:List Nat} {u:Value} (h:Ic st.ob v=some (r,ls)) (hv:cvV E w v u):
 ∃bs,rvR w E.G cx.w0.heap.size r u bs∧bs.length=ls.length∧∀(i:Nat) (l:Nat),ls[i]?=some l→∃p,bs[i]?=some p∧E.r l=some p:=by
 cases v with
 |c c=>
  simp only[Ic] at h
  split at h
  ·rename_i r' l' h1;simp at h;obtain⟨rfl,rfl⟩:=h;exact JB hR h1 hv
  ·cases h
 |agg cs=>
  simp only[Ic] at h
  split at h
  ·rename_i r' l' h1;simp at h;obtain⟨rfl,rfl⟩:=h
   obtain⟨arr,hu,hc⟩:=hv
   obtain⟨bs,k1,k2,k3⟩:=F9 hR h1 hc
   exact⟨bs,⟨arr,hu,k1⟩,k2,k3⟩
  ·cases h
theorem Ay {N:Nat} {cx:Cx} {E:Env} {st:St} {a:Act} {w:World} (hR:Rel N cx E st a w):∀{vs:List V} {rs:List RV} {ls:List Nat} {us:List Value},uY st.ob vs=some (rs,ls)→VV E w vs us→
 ∃bs,zk w E.G cx.w0.heap.size rs us bs∧bs.length=ls.length∧∀(i:Nat) (l:Nat),ls[i]?=some l→∃p,bs[i]?=some p∧E.r l=some p
 |[],rs,ls,us,h,hc=>by
  simp[uY] at h;obtain⟨rfl,rfl⟩:=h
  cases us with
  |nil=>exact⟨[],rfl,rfl,by simp⟩
  |cons _ _=>exact hc.elim
 |c::cs,rs,ls,us,h,hc=>by
  cases us with
  |nil=>exact hc.elim
  |cons u us=>
   simp only[uY] at h
   split at h
   ·rename_i r l rs' ls' h1 h2
    simp at h;obtain⟨rfl,rfl⟩:=h
    obtain⟨b1,k1,k2,k3⟩:=PU hR h1 hc.1
    obtain⟨b2,m1,m2,m3⟩:=Ay hR h2 hc.2
    exact⟨b1++b2,⟨b1,b2,rfl,k1,m1⟩,by simp[k2,m2],JR k2 k3 m3⟩
   ·cases h
def ke (tmps:Array Value):ResultVar→Sem Value
 | .tmp t=>pure (tmps.getD t undef)
 | .cell p t=>do loadVar t (←asAddr (tmps.getD p undef))
theorem Pq {P:Program} {N:Nat} {cx:Cx} {E:Env} {st:St} {a:Act} {w:World} (hR:Rel N cx E st a w) {r:ResultVar} {v:V} (h:Mh P st r v):
 ∃u,(ke a.tmps r).run P w= .ok u w∧cvV E w v u:=by
 cases h with
 |tmp h=>rename_i k;have:=hR.sl k;rw[h] at this;exact⟨_,by simp[ke],this⟩
 |cell h ho hn=>
  rename_i p t n o vt cs ht
  have h1:=hR.sl p;rw[h] at h1
  obtain⟨b,c,hr,hu⟩:=h1
  obtain⟨b',c',arr,hr',hh,hcv,_⟩:=hR.obs o _ ho
  rw[hr] at hr';cases hr'
  have hl:=gz hcv
  have hnn:=To hn
  have:=om (P:=P) (t:=t) (n:=n) (b:=b) (k:=0) (us:=arr.toList) (w:=w) (by rw[hl];exact hnn) (fun j u hj=>by rw[et hh];simpa using hj)
  refine⟨.agg arr.toList.toArray,?_,arr,by simp,hcv⟩
  simp only[Instr.loadAt,Instr.sureAddr] at this
  simpa [ke,hu,asAddr] using this
 |cell1 h ho=>
  rename_i p t o vt c ht
  have h1:=hR.sl p;rw[h] at h1
  obtain⟨b,c',hr,hu⟩:=h1
  obtain⟨b',c'',arr,hr',hh,hcv,_⟩:=hR.obs o _ ho
  rw[hr] at hr';cases hr'
  obtain⟨u,hu',hcu⟩:=CB (k:=0) hcv rfl
  have:=jY (P:=P) (t:=t) (b:=b) (k:=0) (u:=u) (w:=w) (by rw[et hh];simpa using hu')
  refine⟨u,?_,hcu⟩
  simp only[Instr.loadAt,Instr.sureAddr] at this
  simpa [ke,hu,asAddr] using this
theorem sF {P:Program} {N:Nat} {cx:Cx} {E:Env} {st:St} {a:Act} {w:World} (hR:Rel N cx E st a w):∀{rs:List ResultVar} {vs:List V},mU P st rs vs→
 ∃us,(rs.mapM (ke a.tmps)).run P w= .ok us w∧VV E w vs us
 |_,_,.nil=>⟨[],by simp,trivial⟩
 |_,_,.cons (r:=r) h h'=>by
  obtain⟨u,k1,k2⟩:=Pq hR h
  obtain⟨us,m1,m2⟩:=sF hR h'
  refine⟨u::us,?_,k2,m2⟩
  rw[List.mapM_cons]
  simp only[Sem.run_bind]
  simp[k1,m1]
theorem RK {P:Program} {N:Nat} {cx:Cx} {E:Env} {st:St} {a:Act} {w:World} (hR:Rel N cx E st a w) {fn:Func} {res:List RV} (h:Fin P fn.results.toList res st):
 ∃v bs,(results fn a.tmps).run P w= .ok v w∧vJ w E.G cx.w0.heap.size res v bs∧(bs.map (·.1)).Nodup:=by
 obtain⟨vs,ls,h1,h2,h3⟩:=h
 obtain⟨us,k1,k2⟩:=sF hR h1
 obtain⟨bs,m1,m2,m3⟩:=Ay hR h2 k2
 have hnd:(bs.map (·.1)).Nodup:=by
  have hnl:=ij h3
  refine Uh.2 fun i j hi hj hij he=>?_
  simp only[List.length_map] at hi hj
  obtain⟨p,p1,p2⟩:=m3 i ls[i] (v0 (by omega))
  obtain⟨q,q1,q2⟩:=m3 j ls[j] (v0 (by omega))
  rw[v0 hi] at p1
  rw[v0 hj] at q1
  cases p1;cases q1
  simp only[List.getElem_map] at he
  rcases hbi:bs[i] with⟨b1,c1⟩
  rcases hbj:bs[j] with⟨b2,c2⟩
  rw[hbi,hbj] at he
  rw[hbi] at p2;rw[hbj] at q2
  have hb:b1=b2:=he
  subst hb
  exact Uh.1 hnl i j (by omega) (by omega) hij (hR.ok.inj _ _ _ _ _ p2 q2)
 have hm:(fn.results.mapM (ke a.tmps)).run P w= .ok us.toArray w:=by
  rw[←Array.toArray_toList (xs:=fn.results),List.mapM_toArray]
  simp only[Sem.run_map,k1]
  rfl
 have hres:results fn a.tmps=(fn.results.mapM (ke a.tmps))>>= fun vs=>pure (if h:vs.size=1 then vs[0] else .tuple vs):=rfl
 have hlen:us.length=vs.length:=by
  have key:∀(vs:List V) (us:List Value),VV E w vs us→us.length=vs.length:=by
   intro vs
   induction vs with
   |nil=>intro us h;cases us with
    |nil=>rfl
    |cons _ _=>exact h.elim
   |cons v vs ih=>intro us h;cases us with
    |nil=>exact h.elim
    |cons u us=>simp[ih us h.2]
  exact key vs us k2
 have hlen2:us.length=res.length:=by
  have key:∀(rs:List RV) (us:List Value) (bs:List (Nat×Nat)),zk w E.G cx.w0.heap.size rs us bs→us.length=rs.length:=by
   intro rs
   induction rs with
   |nil=>intro us bs h;cases us with
    |nil=>rfl
    |cons _ _=>exact h.elim
   |cons v vs ih=>intro us bs h;cases us with
    |nil=>exact h.elim
    |cons u us=>obtain⟨b1,b2,_,_,h⟩:=h;simp[ih us b2 h]
  exact key res us bs m1
 match res,us,m1,hlen2 with
 |[],[],m1,_=>exact⟨.tuple #[],bs,by rw[hres];simp[hm],⟨#[],rfl,m1⟩,hnd⟩
 |[r],[u],m1,_=>
  obtain⟨b1,b2,rfl,h4,h5⟩:=m1
  have:b2=[]:=h5
  subst this
  exact⟨u,b1++[],by rw[hres];simp[hm],by simpa [vJ] using h4,hnd⟩
 |r1::r2::rs,u1::u2::us,m1,_=>
  exact⟨.tuple (u1::u2::us).toArray,bs,by rw[hres];simp[hm],⟨_,rfl,m1⟩,hnd⟩
def argT:AV→T
 | .c x=>.v (.c (ldC false x))
 | .agg xs=>.v (.agg (xs.map (ldC false)))
def rT:Nat→List AV→List (Nat×T)
 |_,[]=>[]
 |k,a::as=>(k,argT a)::rT (k+1) as
def DO (N:Nat) (P:Program) (rs:List ResultVar) (res:List RV):Exit→St→Prop
 | .normal,s| .ret,s=>∃s',cZ N s s'∧Fin P rs res s'
 |_,_=>False
theorem N8 {N:Nat} {P:Program} {rs:List ResultVar} {res:List RV} {s:St} (h:Fin P rs res s):DO N P rs res .ret s:=⟨s,fun _ E _ _ h=>⟨E,h⟩,h⟩
theorem Mf {E:Env} {w:World} {F:Nat→Prop} (hF:E.F=F):∀{xs:List D} {us:List Value},DV w F xs us→CV E w (xs.map (ldC false)) us
 |[],[],_=>trivial
 |x::xs,u::us,h=>⟨AN (g:=false) (by subst hF;exact h.1),Mf hF h.2⟩
 |[],_::_,h=>h.elim
 |_::_,[],h=>h.elim
theorem z7 {E:Env} {w:World} {F:Nat→Prop} (hF:E.F=F):∀{as:List AV} {us:List Value} (k0:Nat),AR w F as us→us.length=as.length∧∀k,(k0≤k∧k<k0+as.length→∃u,us[k-k0]?=some u∧cvT E w (gt (rT k0 as) k) u)∧(¬(k0≤k∧k<k0+as.length)→gt (rT k0 as) k= .any)
 |[],[],k0,_=>⟨rfl,fun k=>⟨fun h=>by simp at h;omega,fun _=>rfl⟩⟩
 |a::as,u::us,k0,h=>by
  obtain⟨h1,h2⟩:=z7 hF (k0+1) h.2
  refine⟨by simp[h1],fun k=>?_⟩
  by_cases hk:k0=k
  ·subst hk
   refine⟨fun _=>⟨u,by simp,?_⟩,fun hn=>absurd ⟨Tt _,by simp⟩ hn⟩
   rw[rT,dL]
   cases a with
   |c x=>exact AN (g:=false) (by subst hF;exact h.1)
   |agg xs=>obtain⟨arr,hu,hd⟩:=h.1;exact⟨arr,hu,Mf hF hd⟩
  ·rw[rT,cR _ _ hk]
   refine⟨fun hr=>?_,fun hr=>(h2 k).2 (fun h=>hr ⟨by omega,by simp;omega⟩)⟩
   obtain⟨v,h3,h4⟩:=(h2 k).1 ⟨by omega,by simp at hr;omega⟩
   refine⟨v,?_,h4⟩
   rw[show k-k0=(k-(k0+1))+1 from by omega]
   simpa using h3
 |[],_::_,_,h=>h.elim
 |_::_,[],_,h=>h.elim
theorem fn_of {P:Program} {f:FuncId} {fn:Func} {c:Code} {N:Nat} {args:List AV} {rs:List ResultVar} {res:List RV} (hf:P.funcs[f]?=some fn) (hb:fn.body=some c) (hnm:(fn.name== "runtime.NumGoroutine")=false) (hN:fn.ntmps=N) (hrs:fn.results.toList=rs)
 (ha:Nat.ble args.length N=true) (h:AWC P N c ⟨rT 0 args,[],0⟩ (DO N P rs res)):Fn P f args res:=by
 refine⟨fun vs w=>by simp[callFunc,hf,hb];simpa using hnm,fun F w vals hF hT hA=>?_⟩
 subst hrs
 refine calls_of_wp hf hb ?_
 let E:Env:={r:=fun _=>none,F:=F,G:=fun _=>False}
 obtain⟨h1,h2⟩:=z7 (E:=E) (F:=F) rfl 0 hA
 have hle:args.length≤N:=Nat.le_of_ble_eq_true ha
 have hsz:vals.size=args.length:=by simpa using h1
 have hR:Rel N ⟨w,fun _=>False,fun _=>none,fun _=>True,fun _=>False,⟨hT,fun _ _ h=>h⟩,fun _=>False⟩ E ⟨rT 0 args,[],0⟩ {tmps:=vals++TZ (fn.ntmps-vals.size) undef,defers:=[]} w:=by
  refine⟨⟨hF,fun _ h=>h.elim,fun _ h=>h.elim,(fun _ _ _ h=>by cases h),(fun _ _ _ _ _ h=>by cases h),rfl,rfl,rfl,Tt _,fun _ _ _=>rfl,(fun _ _ _ h=>by cases h),fun _ _=>.inl trivial,fun b h h'=>absurd (hF b h) (by show ¬b<w.heap.size;have:w.heap.size≤b:=h';omega),⟨fun _ _ h=>h.elim,fun _ _ _ h=>h.elim,fun _ h=>h.elim,fun _ h=>h.elim,fun _ h=>h.elim⟩⟩,(fun _ _ h=>by cases h),(fun _ _ h=>by cases h),fun k=>?_,rfl,by simp;omega,fun _ _ h=>h.elim⟩
  by_cases hk:k<args.length
  ·obtain⟨u,h3,h4⟩:=(h2 k).1 ⟨Ud _,by omega⟩
   have:(vals++TZ (fn.ntmps-vals.size) undef).getD k undef=u:=by
    have h5:vals[k]?=some u:=by simpa using h3
    have h6:(vals++TZ (fn.ntmps-vals.size) undef)[k]?=some u:=by rw[Array.getElem?_append_left (by omega)];exact h5
    simp[h6]
   rw[this];exact h4
  ·have:=(h2 k).2 (by omega)
   show cvT E w (gt (rT 0 args) k) _
   rw[this];trivial
 refine wp_mono (h _ E _ w hR) ?_
 rintro e a' w' ⟨E',s',hR',hq⟩
 have fin:∀s',Rel N ⟨w,fun _=>False,fun _=>none,fun _=>True,fun _=>False,⟨hT,fun _ _ h=>h⟩,fun _=>False⟩ E' s' a' w'→(∃s'',cZ N s' s''∧Fin P fn.results.toList res s'')→
  a'.defers=[]∧∃v,(results fn a'.tmps).run P w'= .ok v w'∧∃v' G bs,Ending.returned v= .returned v'∧DN w w' (fun _=>False)∧(∀b,G b→w.heap.size≤b∧b<w'.heap.size∧gA w' b)∧vJ w' G w.heap.size res v' bs∧(bs.map (·.1)).Nodup:=by
  rintro s' hR' ⟨s'',hw,hfin⟩
  obtain⟨E'',hR''⟩:=hw _ _ _ _ hR'
  obtain⟨v,bs,k1,k2,k3⟩:=RK hR'' hfin
  have ok:=hR''.ok
  exact⟨hR''.dfr,v,k1,v,E''.G,bs,rfl,⟨ok.os,ok.tape,ok.output,ok.size,ok.block⟩,fun b hb=>⟨(ok.gn b hb).resolve_right id,ok.fb b (ok.gf b hb),ok.gc b (ok.gf b hb) ((ok.gn b hb).resolve_right id)⟩,k2,k3⟩
 cases e with
 |normal=>exact fin s' hR' hq
 |ret=>exact fin s' hR' hq
 |_=>exact hq.elim
def labC:C→List Nat
 | .w o _=>[o]
 | .s o _ _ _=>[o]
 | .wn o _=>[o]
 |_=>[]
def Re:List C→List Nat
 |[]=>[]
 |c::cs=>labC c++Re cs
def JT:List T→List Nat
 |[]=>[]
 | .v (.c c)::ts=>labC c++JT ts
 | .v (.agg cs)::ts=>Re cs++JT ts
 |_::ts=>JT ts
def rZ (ob:List (Nat×Ob)):List Nat→Option (List (Nat×Ob))
 |[]=>some []
 |l::ls=>match go ob l,rZ ob ls with
  |some x,some r=>some ((l,x)::r)
  |_,_=>none
theorem qs {ob:List (Nat×Ob)}:∀{ls:List Nat} {nob:List (Nat×Ob)},rZ ob ls=some nob→Lo ob nob
 |[],nob,h=>by simp[rZ] at h;subst h;trivial
 |l::ls,nob,h=>by
  simp only[rZ] at h
  split at h
  ·rename_i x r h1 h2;simp at h;subst h;exact⟨h1,qs h2⟩
  ·cases h
theorem vu {ob:List (Nat×Ob)} {l:Nat} {x:Ob} (h:go ob l=some x):(l,x)∈ob:=by
 induction ob with
 |nil=>cases h
 |cons p r ih=>
  obtain⟨k,v⟩:=p
  by_cases hk:k=l
  ·subst hk;rw[cg] at h;cases h;simp
  ·rw[bA _ _ hk] at h;exact .tail _ (ih h)
def wk (nob:List (Nat×Ob)):C→Option (D×List (Nat×Nat))
 | .d _ x=>some (x,[])
 | .nil=>some (.l [],[])
 | .w o n=>match go nob o with
  |some (.row _ _ els _ _)=>some (.l els,[(els.length,n)])
  |_=>none
 | .wn o n=>match go nob o with
  |some (.rown _ _ els _)=>some (.l els,[(els.length,n)])
  |_=>none
 | .s o sz off len=>match go nob o with
  |some (.row _ sz' els _ _)=>match d0 sz sz' with
   |true=>some (.l ((els.drop off).take len),[(off+len-els.length,0)])
   |false=>none
  |_=>none
 |_=>none
def FT (nob:List (Nat×Ob)):List C→Option (List D×List (Nat×Nat))
 |[]=>some ([],[])
 |c::cs=>match wk nob c,FT nob cs with
  |some (x,e),some (xs,es)=>some (x::xs,e++es)
  |_,_=>none
def ST (nob:List (Nat×Ob)):T→Option (AV×List (Nat×Nat))
 | .v (.c c)=>match wk nob c with
  |some (x,e)=>some (.c x,e)
  |none=>none
 | .v (.agg cs)=>match FT nob cs with
  |some (x,e)=>some (.agg x,e)
  |none=>none
 |_=>none
def Dz (nob:List (Nat×Ob)):List T→Option (List AV×List (Nat×Nat))
 |[]=>some ([],[])
 |c::cs=>match ST nob c,Dz nob cs with
  |some (x,e),some (xs,es)=>some (x::xs,e++es)
  |_,_=>none
def FM (nob:List (Nat×Ob)):C→Option (D×List (Nat×Nat))
 | .r _ x=>some (x,[])
 |c=>wk nob c
def Ak (nob:List (Nat×Ob)):List C→Option (List D×List (Nat×Nat))
 |[]=>some ([],[])
 |c::cs=>match FM nob c,Ak nob cs with
  |some (x,e),some (xs,es)=>some (x::xs,e++es)
  |_,_=>none
def OS (nob:List (Nat×Ob)):T→Option (AV×List (Nat×Nat))
 | .v (.c c)=>match FM nob c with
  |some (x,e)=>some (.c x,e)
  |none=>none
 | .v (.agg cs)=>match Ak nob cs with
  |some (x,e)=>some (.agg x,e)
  |none=>none
 |_=>none
def yC (nob:List (Nat×Ob)):List T→Option (List AV×List (Nat×Nat))
 |[]=>some ([],[])
 |c::cs=>match OS nob c,yC nob cs with
  |some (x,e),some (xs,es)=>some (x::xs,e++es)
  |_,_=>none
def Eqs:List (Nat×Nat)→Prop
 |[]=>True
 |(a,b)::r=>a=b∧Eqs r
theorem ea:∀{l m:List (Nat×Nat)},Eqs (l++m)→Eqs l∧Eqs m
 |[],m,h=>⟨trivial,h⟩
 |(a,b)::l,m,h=>let ⟨h1,h2⟩:=ea (l:=l) h.2;⟨⟨h.1,h1⟩,h2⟩
def jt (E:Env) (nob:List (Nat×Ob)):Nat→Prop:=fun b=>E.F b∨∃l x c,go nob l=some x∧E.r l=some (b,c)
def Af (E:Env) (nob:List (Nat×Ob)):Nat→Prop:=fun b=>jt E nob b∨∃l,E.T l b
section
variable {cx:Cx} {E:Env} {w:World} {nob:List (Nat×Ob)} (ok:cQ cx E w) (hob:∀l x,go nob l=some x→cy E w l x)
include ok hob
theorem zx {c:C} {x:D} {e:List (Nat×Nat)} {u:Value} (h:wk nob c=some (x,e)) (he:Eqs e) (hc:cvC E w c u):rdD w (jt E nob) x u:=by
 have hHF:∀g b,E.H g b→jt E nob b:=fun g b hb=>.inl (by cases g;exact hb;exact ok.gf b hb)
 cases c with
 |d g y=>simp[wk] at h;obtain⟨rfl,rfl⟩:=h;exact cj (fun _ _=>rfl) (hHF g) _ _ hc
 |nil=>simp[wk] at h;obtain⟨rfl,rfl⟩:=h;have:u= .slice none 0 0:=hc;subst this;rw[rdD];exact⟨none,0,rfl,Tt _,.inl rfl⟩
 |w o n=>
  simp only[wk] at h
  split at h
  ·rename_i t sz els g m ho
   simp at h;obtain⟨rfl,rfl⟩:=h
   obtain⟨b,cc,hr,rfl⟩:=hc
   obtain⟨b',c',arr,hr',hh,ha,hlc,hmx,hes,hrd,_⟩:=hob o _ ho
   rw[hr] at hr';cases hr'
   have hn:els.length=n:=he.1
   subst hn
   rw[rdD]
   exact⟨_,_,rfl,hlc,.inr ⟨b,0,rfl,.inr ⟨o,_,cc,ho,hr⟩,cm (fun _ _=>rfl) (hHF g) rfl _ _ hrd⟩⟩
  ·cases h
 |wn o n=>
  simp only[wk] at h
  split at h
  ·rename_i t sz els g ho
   simp at h;obtain⟨rfl,rfl⟩:=h
   have hn:els.length=n:=he.1
   rcases hc with⟨h0,rfl,rfl⟩|⟨h0,b,cc,hr,rfl⟩
   ·have:els=[]:=Ui hn
    subst this
    rw[rdD];exact⟨none,0,rfl,Tt _,.inl rfl⟩
   ·rcases hob o _ ho with⟨h1,_⟩|⟨_,b',c',arr,hr',hh,ha,hlc,hmx,hes,hrd,_⟩
    ·exact absurd h1 h0
    ·rw[hr] at hr';cases hr'
     subst hn
     rw[rdD]
     exact⟨_,_,rfl,hlc,.inr ⟨b,0,rfl,.inr ⟨o,_,cc,ho,hr⟩,cm (fun _ _=>rfl) (hHF g) rfl _ _ hrd⟩⟩
  ·cases h
 |s o sz off len=>
  simp only[wk] at h
  split at h
  ·rename_i t sz' els g m ho
   split at h
   ·rename_i hb
    have hsz:=To hb
    subst hsz
    simp at h;obtain⟨rfl,rfl⟩:=h
    obtain⟨A,cc,b,k,hr,rfl,hlc',hA⟩:=hc
    obtain⟨b',c',arr,hr',hh,ha,hlc,hmx,hes,hrd,_⟩:=hob o _ ho
    rw[hr] at hr';cases hr'
    have hle:off+len-els.length=0:=he.1
    have hl:((els.drop off).take len).length=len:=by simp;omega
    rw[rdD]
    refine⟨A,cc,by rw[hl],by rw[hl];exact hlc',?_⟩
    rcases hA with h0|h0
    ·left;exact Ui (by rw[hl];exact h0)
    ·right;exact⟨b,off*sz,h0,.inr ⟨o,_,k,ho,hr⟩,cm (fun _ _=>rfl) (hHF g) rfl _ _ (by simpa using nR len (yf hrd hes off))⟩
   ·cases h
  ·cases h
 |_=>simp[wk] at h
theorem FV:∀{cs:List C} {xs:List D} {e:List (Nat×Nat)} {us:List Value},FT nob cs=some (xs,e)→Eqs e→CV E w cs us→DV w (jt E nob) xs us
 |[],xs,e,us,h,he,hc=>by
  simp[FT] at h;obtain⟨rfl,rfl⟩:=h
  cases us with
  |nil=>trivial
  |cons _ _=>exact hc.elim
 |c::cs,xs,e,us,h,he,hc=>by
  cases us with
  |nil=>exact hc.elim
  |cons u us=>
   simp only[FT] at h
   split at h
   ·rename_i x e1 xs' e2 h1 h2
    simp at h;obtain⟨rfl,rfl⟩:=h
    obtain⟨k1,k2⟩:=ea he
    exact⟨zx ok hob h1 k1 hc.1,FV h2 k2 hc.2⟩
   ·cases h
theorem QS {t:T} {x:AV} {e:List (Nat×Nat)} {u:Value} (h:ST nob t=some (x,e)) (he:Eqs e) (hc:cvT E w t u):avR w (jt E nob) x u:=by
 unfold ST at h
 split at h
 ·split at h
  ·rename_i h1;simp at h;obtain⟨rfl,rfl⟩:=h;exact zx ok hob h1 he hc
  ·cases h
 ·split at h
  ·rename_i h1;simp at h;obtain⟨rfl,rfl⟩:=h;obtain⟨arr,hu,hc⟩:=hc;exact⟨arr,hu,FV ok hob h1 he hc⟩
  ·cases h
 ·cases h
theorem HL {a:Act}:∀{ts:List T} {xs:List AV} {e:List (Nat×Nat)} {args:List Operand},Dz nob ts=some (xs,e)→Eqs e→ts.length=args.length→(∀x t,(x,t)∈args.zip ts→cvT E w t (a.eval x))→AR w (jt E nob) xs (args.map a.eval)
 |[],xs,e,[],h,he,hl,hn=>by simp[Dz] at h;obtain⟨rfl,rfl⟩:=h;trivial
 |t::ts,xs,e,x::args,h,he,hl,hn=>by
  simp only[Dz] at h
  split at h
  ·rename_i y e1 ys e2 h1 h2
   simp at h;obtain⟨rfl,rfl⟩:=h
   obtain⟨k1,k2⟩:=ea he
   exact⟨QS ok hob h1 k1 (hn x t (by simp)),HL h2 k2 (by simpa using hl) fun x t hm=>hn x t (by simp only[Up];exact .tail _ hm)⟩
  ·cases h
 |[],_,_,_::_,_,_,hl,_=>by simp at hl
 |_::_,_,_,[],_,_,hl,_=>by simp at hl
theorem FN {c:C} {x:D} {e:List (Nat×Nat)} {u:Value} (h:FM nob c=some (x,e)) (he:Eqs e) (hc:cvC E w c u):rdD w (Af E nob) x u:=by
 have gen:∀{c:C},wk nob c=some (x,e)→cvC E w c u→rdD w (Af E nob) x u:=fun h hc=>cj (fun _ _=>rfl) (fun b hb=>.inl hb) _ _ (zx ok hob h he hc)
 cases c with
 |r l y=>simp[FM] at h;obtain⟨rfl,rfl⟩:=h;exact cj (fun _ _=>rfl) (fun b hb=>.inr ⟨l,hb⟩) _ _ hc
 |_=>exact gen (by simpa only[FM] using h) hc
theorem CI:∀{cs:List C} {xs:List D} {e:List (Nat×Nat)} {us:List Value},Ak nob cs=some (xs,e)→Eqs e→CV E w cs us→DV w (Af E nob) xs us
 |[],xs,e,us,h,he,hc=>by
  simp[Ak] at h;obtain⟨rfl,rfl⟩:=h
  cases us with
  |nil=>trivial
  |cons _ _=>exact hc.elim
 |c::cs,xs,e,us,h,he,hc=>by
  cases us with
  |nil=>exact hc.elim
  |cons u us=>
   simp only[Ak] at h
   split at h
   ·rename_i x e1 xs' e2 h1 h2
    simp at h;obtain⟨rfl,rfl⟩:=h
    obtain⟨k1,k2⟩:=ea he
    exact⟨FN ok hob h1 k1 hc.1,CI h2 k2 hc.2⟩
   ·cases h
theorem OT {t:T} {x:AV} {e:List (Nat×Nat)} {u:Value} (h:OS nob t=some (x,e)) (he:Eqs e) (hc:cvT E w t u):avR w (Af E nob) x u:=by
 unfold OS at h
 split at h
 ·split at h
  ·rename_i h1;simp at h;obtain⟨rfl,rfl⟩:=h;exact FN ok hob h1 he hc
  ·cases h
 ·split at h
  ·rename_i h1;simp at h;obtain⟨rfl,rfl⟩:=h;obtain⟨arr,hu,hc⟩:=hc;exact⟨arr,hu,CI ok hob h1 he hc⟩
  ·cases h
 ·cases h
theorem DA {a:Act}:∀{ts:List T} {xs:List AV} {e:List (Nat×Nat)} {args:List Operand},yC nob ts=some (xs,e)→Eqs e→ts.length=args.length→(∀x t,(x,t)∈args.zip ts→cvT E w t (a.eval x))→AR w (Af E nob) xs (args.map a.eval)
 |[],xs,e,[],h,he,hl,hn=>by simp[yC] at h;obtain⟨rfl,rfl⟩:=h;trivial
 |t::ts,xs,e,x::args,h,he,hl,hn=>by
  simp only[yC] at h
  split at h
  ·rename_i y e1 ys e2 h1 h2
   simp at h;obtain⟨rfl,rfl⟩:=h
   obtain⟨k1,k2⟩:=ea he
   exact⟨OT ok hob h1 k1 (hn x t (by simp)),DA h2 k2 (by simpa using hl) fun x t hm=>hn x t (by simp only[Up];exact .tail _ hm)⟩
  ·cases h
 |[],_,_,_::_,_,_,hl,_=>by simp at hl
 |_::_,_,_,[],_,_,hl,_=>by simp at hl
end
def Lc (nx:Nat):RC→Option (C×List (Nat×Ob)×Nat)
 | .d (.i k n)=>some (.d false (.i k n),[],nx)
 | .d (.b x)=>some (.d false (.b x),[],nx)
 | .d (.str s)=>some (.d false (.str s),[],nx)
 | .d (.l xs)=>some (.d true (.l xs),[],nx)
 | .d (.k _ _ _)=>none
 | .own ty sz els n=>some (.w nx n,[(nx,.row ty sz els true true)],nx+1)
 | .nil=>some (.nil,[],nx)
def Gq (nx:Nat):List RC→Option (List C×List (Nat×Ob)×Nat)
 |[]=>some ([],[],nx)
 |r::rs=>match Lc nx r with
  |some (c,b,n)=>match Gq n rs with
   |some (cs,bs,m)=>some (c::cs,b++bs,m)
   |none=>none
  |none=>none
def Nq (nx:Nat):RV→Option (V×List (Nat×Ob)×Nat)
 | .c r=>match Lc nx r with
  |some (c,b,n)=>some (.c c,b,n)
  |none=>none
 | .agg rs=>match Gq nx rs with
  |some (c,b,n)=>some (.agg c,b,n)
  |none=>none
def Gs (nx:Nat):List RV→Option (List V×List (Nat×Ob)×Nat)
 |[]=>some ([],[],nx)
 |r::rs=>match Nq nx r with
  |some (c,b,n)=>match Gs n rs with
   |some (cs,bs,m)=>some (c::cs,b++bs,m)
   |none=>none
  |none=>none
def Cb (nx:Nat):List RV→Option (T×List (Nat×Ob)×Nat)
 |[r]=>match Nq nx r with
  |some (v,b,n)=>some (.v v,b,n)
  |none=>none
 |rs=>match Gs nx rs with
  |some (v,b,n)=>some (.tup v,b,n)
  |none=>none
def Imp (E:Env) (w:World) (nx n:Nat) (bs:List (Nat×Nat)) (nw:List (Nat×Ob)):Prop:=
 n=nx+bs.length∧(∀l x,(l,x)∈nw→cy E w l x∧nx≤l∧l<n)∧∀l,nx≤l→l<n→∃x,(l,x)∈nw
theorem Imp.join {E:Env} {w:World} {nx n m:Nat} {b1 b2:List (Nat×Nat)} {nw1 nw2:List (Nat×Ob)} (h1:Imp E w nx n b1 nw1) (h2:Imp E w n m b2 nw2):Imp E w nx m (b1++b2) (nw1++nw2):=by
 obtain⟨rfl,h1b,h1c⟩:=h1
 obtain⟨rfl,h2b,h2c⟩:=h2
 refine⟨by simp;omega,fun l x hm=>?_,fun l hl1 hl2=>?_⟩
 ·rcases TW.1 hm with h|h
  ·have:=h1b l x h;exact⟨this.1,by omega,by omega⟩
  ·have:=h2b l x h;exact⟨this.1,by omega,by omega⟩
 ·by_cases hl:l<nx+b1.length
  ·obtain⟨x,hx⟩:=h1c l hl1 hl;exact⟨x,by simp[hx]⟩
  ·obtain⟨x,hx⟩:=h2c l (by omega) hl2;exact⟨x,by simp[hx]⟩
section
variable {E:Env} {w:World} {G:Nat→Prop} {base:Nat} (hG:∀b,G b→E.G b) (hnF:∀b:Nat,base≤b→¬G b→¬E.F b)
include hG hnF
theorem JO {r:RC} {u:Value} {bs:List (Nat×Nat)} {nx n:Nat} {c:C} {nw:List (Nat×Ob)} (h:Lc nx r=some (c,nw,n)) (hr:rcR w G base r u bs) (hb:∀(i:Nat) (p:Nat×Nat),bs[i]?=some p→E.r (nx+i)=some p):
 cvC E w c u∧Imp E w nx n bs nw:=by
 cases r with
 |d x=>
  obtain⟨rfl,hr⟩:=hr
  cases x<;>simp[Lc] at h<;>obtain⟨rfl,rfl,rfl⟩:=h<;>refine⟨?_,⟨rfl,by simp,fun l h1 h2=>by omega⟩⟩
  ·simp only[cvC,rdD] at hr ⊢;exact hr
  ·simp only[cvC,rdD] at hr ⊢;exact hr
  ·simp only[cvC,rdD] at hr ⊢;exact hr
  ·exact cj (fun _ _=>rfl) hG _ _ hr
 |own ty sz els n'=>
  obtain⟨b,cc,arr,rfl,rfl,hh,ha,hlc,hmx,hes,hrd,hgb,hbb⟩:=hr
  simp[Lc] at h;obtain⟨rfl,rfl,rfl⟩:=h
  have:=hb 0 (b,cc) rfl
  rw[Nat.add_zero] at this
  refine⟨⟨b,cc,this,rfl⟩,⟨rfl,fun l x hm=>?_,fun l h1 h2=>⟨.row ty sz els true true,by simp at h2 ⊢;omega⟩⟩⟩
  simp at hm;obtain⟨rfl,rfl⟩:=hm
  exact⟨⟨b,cc,arr,this,hh,ha,hlc,hmx,hes,cm (fun _ _=>rfl) hG rfl _ _ hrd,fun _=>hnF b hbb hgb,fun h=>by cases h⟩,by omega,by omega⟩
 |nil=>
  obtain⟨rfl,hr⟩:=hr
  simp[Lc] at h;obtain⟨rfl,rfl,rfl⟩:=h
  exact⟨hr,⟨rfl,by simp,fun l h1 h2=>by omega⟩⟩
omit hG hnF in
theorem FK {b1 b2:List (Nat×Nat)} {nx:Nat} (hb:∀(i:Nat) (p:Nat×Nat),(b1++b2)[i]?=some p→E.r (nx+i)=some p):
 (∀(i:Nat) (p:Nat×Nat),b1[i]?=some p→E.r (nx+i)=some p)∧∀(i:Nat) (p:Nat×Nat),b2[i]?=some p→E.r (nx+b1.length+i)=some p:=by
 refine⟨fun i p hi=>hb i p ?_,fun i p hi=>?_⟩
 ·have:i<b1.length:=(Tm.1 hi).1
  rw[Tu this];exact hi
 ·have:=hb (b1.length+i) p (by rw[Tz (by omega)];simpa using hi)
  rwa [←Nat.add_assoc] at this
theorem Gr:∀{rs:List RC} {us:List Value} {bs:List (Nat×Nat)} {nx n:Nat} {cs:List C} {nw:List (Nat×Ob)},Gq nx rs=some (cs,nw,n)→Cl w G base rs us bs→(∀(i:Nat) (p:Nat×Nat),bs[i]?=some p→E.r (nx+i)=some p)→
 CV E w cs us∧Imp E w nx n bs nw
 |[],us,bs,nx,n,cs,nw,h,hr,hb=>by
  simp[Gq] at h;obtain⟨rfl,rfl,rfl⟩:=h
  cases us with
  |nil=>have:bs=[]:=hr;subst this;exact⟨trivial,⟨rfl,by simp,fun l h1 h2=>by omega⟩⟩
  |cons _ _=>exact hr.elim
 |r::rs,us,bs,nx,n,cs,nw,h,hr,hb=>by
  cases us with
  |nil=>exact hr.elim
  |cons u us=>
   obtain⟨b1,b2,rfl,hr1,hr2⟩:=hr
   simp only[Gq] at h
   split at h
   ·rename_i c nw1 n1 h1
    split at h
    ·rename_i cs2 nw2 n2 h2
     simp at h;obtain⟨rfl,rfl,rfl⟩:=h
     obtain⟨hb1,hb2⟩:=FK hb
     obtain⟨k1,k2⟩:=JO hG hnF h1 hr1 hb1
     have hn1:=k2.1
     subst hn1
     obtain⟨m1,m2⟩:=Gr h2 hr2 hb2
     exact⟨⟨k1,m1⟩,k2.join m2⟩
    ·cases h
   ·cases h
theorem JP {r:RV} {u:Value} {bs:List (Nat×Nat)} {nx n:Nat} {v:V} {nw:List (Nat×Ob)} (h:Nq nx r=some (v,nw,n)) (hr:rvR w G base r u bs) (hb:∀(i:Nat) (p:Nat×Nat),bs[i]?=some p→E.r (nx+i)=some p):
 cvV E w v u∧Imp E w nx n bs nw:=by
 cases r with
 |c r=>
  simp only[Nq] at h
  split at h
  ·rename_i h1;simp at h;obtain⟨rfl,rfl,rfl⟩:=h;exact JO hG hnF h1 hr hb
  ·cases h
 |agg rs=>
  simp only[Nq] at h
  split at h
  ·rename_i h1;simp at h;obtain⟨rfl,rfl,rfl⟩:=h
   obtain⟨arr,hu,hr⟩:=hr
   obtain⟨k1,k2⟩:=Gr hG hnF h1 hr hb
   exact⟨⟨arr,hu,k1⟩,k2⟩
  ·cases h
theorem AI:∀{rs:List RV} {us:List Value} {bs:List (Nat×Nat)} {nx n:Nat} {cs:List V} {nw:List (Nat×Ob)},Gs nx rs=some (cs,nw,n)→zk w G base rs us bs→(∀(i:Nat) (p:Nat×Nat),bs[i]?=some p→E.r (nx+i)=some p)→
 VV E w cs us∧Imp E w nx n bs nw
 |[],us,bs,nx,n,cs,nw,h,hr,hb=>by
  simp[Gs] at h;obtain⟨rfl,rfl,rfl⟩:=h
  cases us with
  |nil=>have:bs=[]:=hr;subst this;exact⟨trivial,⟨rfl,by simp,fun l h1 h2=>by omega⟩⟩
  |cons _ _=>exact hr.elim
 |r::rs,us,bs,nx,n,cs,nw,h,hr,hb=>by
  cases us with
  |nil=>exact hr.elim
  |cons u us=>
   obtain⟨b1,b2,rfl,hr1,hr2⟩:=hr
   simp only[Gs] at h
   split at h
   ·rename_i c nw1 n1 h1
    split at h
    ·rename_i cs2 nw2 n2 h2
     simp at h;obtain⟨rfl,rfl,rfl⟩:=h
     obtain⟨hb1,hb2⟩:=FK hb
     obtain⟨k1,k2⟩:=JP hG hnF h1 hr1 hb1
     have hn1:=k2.1
     subst hn1
     obtain⟨m1,m2⟩:=AI h2 hr2 hb2
     exact⟨⟨k1,m1⟩,k2.join m2⟩
    ·cases h
   ·cases h
theorem uj {rs:List RV} {u:Value} {bs:List (Nat×Nat)} {nx n:Nat} {t:T} {nw:List (Nat×Ob)} (h:Cb nx rs=some (t,nw,n)) (hr:vJ w G base rs u bs) (hb:∀(i:Nat) (p:Nat×Nat),bs[i]?=some p→E.r (nx+i)=some p):
 cvT E w t u∧Imp E w nx n bs nw:=by
 match rs,h,hr with
 |[r],h,hr=>
  simp only[Cb] at h
  split at h
  ·rename_i h1;simp at h;obtain⟨rfl,rfl,rfl⟩:=h;exact JP hG hnF h1 hr hb
  ·cases h
 |[],h,hr=>
  simp only[Cb] at h
  split at h
  ·rename_i h1;simp at h;obtain⟨rfl,rfl,rfl⟩:=h
   obtain⟨arr,hu,hr⟩:=hr
   obtain⟨k1,k2⟩:=AI hG hnF h1 hr hb
   exact⟨⟨arr,hu,k1⟩,k2⟩
  ·cases h
 |r1::r2::rs,h,hr=>
  simp only[Cb] at h
  split at h
  ·rename_i h1;simp at h;obtain⟨rfl,rfl,rfl⟩:=h
   obtain⟨arr,hu,hr⟩:=hr
   obtain⟨k1,k2⟩:=AI hG hnF h1 hr hb
   exact⟨⟨arr,hu,k1⟩,k2⟩
  ·cases h
end
end Go.AM
namespace Go.AM
open Go.RowKit
theorem Oe {w:World} {G:Nat→Prop} {base:Nat} {r:RC} {u:Value} {bs:List (Nat×Nat)} (h:rcR w G base r u bs):∀p∈bs,base≤p.1∧p.1<w.heap.size:=by
 cases r with
 |d x=>obtain⟨rfl,_⟩:=h;simp
 |own ty sz els n=>
  obtain⟨b,c,arr,rfl,_,hh,_,_,_,_,_,_,hb⟩:=h
  intro p hp;simp at hp;subst hp
  refine⟨hb,?_⟩
  rcases T9 b w.heap.size with h|h
  ·exact h
  ·rw[Ub h] at hh;cases hh
 |nil=>obtain⟨rfl,_⟩:=h;simp
theorem Kp {w:World} {G:Nat→Prop} {base:Nat}:∀{rs:List RC} {us:List Value} {bs:List (Nat×Nat)},Cl w G base rs us bs→∀p∈bs,base≤p.1∧p.1<w.heap.size
 |[],[],bs,h=>by have:bs=[]:=h;subst this;simp
 |r::rs,u::us,bs,h=>fun p hp=>by
  obtain⟨b1,b2,rfl,h1,h2⟩:=h
  rcases TW.1 hp with h|h
  ·exact Oe h1 p h
  ·exact Kp h2 p h
 |[],_::_,_,h=>h.elim
 |_::_,[],_,h=>h.elim
theorem Oo {w:World} {G:Nat→Prop} {base:Nat} {r:RV} {u:Value} {bs:List (Nat×Nat)} (h:rvR w G base r u bs):∀p∈bs,base≤p.1∧p.1<w.heap.size:=by
 cases r with
 |c r=>exact Oe h
 |agg rs=>obtain⟨_,_,h⟩:=h;exact Kp h
theorem EL {w:World} {G:Nat→Prop} {base:Nat}:∀{rs:List RV} {us:List Value} {bs:List (Nat×Nat)},zk w G base rs us bs→∀p∈bs,base≤p.1∧p.1<w.heap.size
 |[],[],bs,h=>by have:bs=[]:=h;subst this;simp
 |r::rs,u::us,bs,h=>fun p hp=>by
  obtain⟨b1,b2,rfl,h1,h2⟩:=h
  rcases TW.1 hp with h|h
  ·exact Oo h1 p h
  ·exact EL h2 p h
 |[],_::_,_,h=>h.elim
 |_::_,[],_,h=>h.elim
theorem EI {w:World} {G:Nat→Prop} {base:Nat} {rs:List RV} {u:Value} {bs:List (Nat×Nat)} (h:vJ w G base rs u bs):∀p∈bs,base≤p.1∧p.1<w.heap.size:=by
 match rs,h with
 |[r],h=>exact Oo h
 |[],h=>obtain⟨_,_,h⟩:=h;exact EL h
 |_::_::_,h=>obtain⟨_,_,h⟩:=h;exact EL h
section
variable {P:Program} {N:Nat} {d:Tmp} {ty:TypeId} {ps:String} {af:Array Edge} {gd:Option (Nat×Bool)} {st:St}
def Env.after (E:Env) (nx:Nat) (bs:List (Nat×Nat)) (G:Nat→Prop):Env:=
 ⟨fun o=>if nx≤o∧o<nx+bs.length then bs[o-nx]? else E.r o,fun b=>E.F b∨G b,fun b=>E.G b∨G b,E.T,E.Z,E.n⟩
theorem CN {cx:Cx} {E:Env} {w w':World} {nx:Nat} {bs:List (Nat×Nat)} {G:Nat→Prop} (ok:cQ cx E w) (hp:DN w w' (fun _=>False)) (hG:∀b,G b→w.heap.size≤b∧b<w'.heap.size∧gA w' b)
 (hbs:∀p∈bs,w.heap.size≤p.1∧p.1<w'.heap.size) (hnd:(bs.map (·.1)).Nodup) (hfr:∀l,nx≤l→l<nx+bs.length→E.r l=none∧rsv l=false):
 cQ cx (E.after nx bs G) w'∧Ext E w (E.after nx bs G) w':=by
 have hsz:=hp.size
 have hws:=ok.size
 have hnew:∀o b c,(E.after nx bs G).r o=some (b,c)→(nx≤o∧o<nx+bs.length∧bs[o-nx]?=some (b,c))∨(E.r o=some (b,c)):=by
  intro o b c h
  simp only[Env.after] at h
  split at h
  ·rename_i hh;exact .inl ⟨hh.1,hh.2,h⟩
  ·exact .inr h
 refine⟨⟨fun b hb=>?_,fun b hb=>?_,fun b hb=>?_,fun o b c h=>?_,fun o o' b c c' h h'=>?_,by rw[hp.os];exact ok.os,by rw[hp.tape];exact ok.tape,by rw[hp.output];exact ok.output,by omega,fun b hb hW=>?_,fun o x hx h=>?_,fun b hb=>hb.elim (ok.ff b) (fun h=>.inr (by have:=(hG b h).1;omega)),
  fun b hb hb'=>hb.elim (fun h=>(ok.gc b h hb').of_eq (hp.block b (ok.fb b h) (fun h=>h))) (fun h=>(hG b h).2.2),
  ok.sf.grow rfl rfl (fun b hb=>hb.elim .inl (fun h=>.inr (hG b h).1)) (fun o b c h=>by
   rcases hnew o b c h with⟨_,_,h⟩|h
   ·exact .inr (hbs _ (Tn h)).1
   ·exact .inl ⟨o,c,h⟩) hsz (fun b hb=>hp.block b hb (fun h=>h))⟩,
  ⟨fun o x h=>?_,fun b h=>.inl h,fun b h=>.inl h,fun b h=>?_,fun b hb=>hp.block b hb (fun h=>h),rfl,rfl,rfl⟩⟩
 ·rcases hb with h|h
  ·have:=ok.fb b h;omega
  ·exact(hG b h).2.1
 ·rcases hb with h|h
  ·exact .inl (ok.gf b h)
  ·exact .inr h
 ·rcases hb with h|h
  ·exact ok.gn b h
  ·have:=hG b h;omega
 ·rcases hnew o b c h with⟨_,_,h⟩|h
  ·have:=hbs _ (Tn h);exact⟨this.2,.inl (by have:=this.1;simp at this;omega)⟩
  ·have:=ok.rb o b c h;exact⟨by omega,this.2⟩
 ·rcases hnew o b c h with⟨h1,h2,h3⟩|h3<;>rcases hnew o' b c' h' with⟨k1,k2,k3⟩|k3
  ·have hi:o-nx<bs.length:=by omega
   have hj:o'-nx<bs.length:=by omega
   rcases Nat.lt_trichotomy (o-nx) (o'-nx) with hlt|heq|hlt
   ·exfalso
    have:=Uh.1 hnd (o-nx) (o'-nx) (by simpa using hi) (by simpa using hj) hlt
    rw[v0 hi] at h3;rw[v0 hj] at k3
    simp at h3 k3;simp[h3,k3] at this
   ·omega
   ·exfalso
    have:=Uh.1 hnd (o'-nx) (o-nx) (by simpa using hj) (by simpa using hi) hlt
    rw[v0 hi] at h3;rw[v0 hj] at k3
    simp at h3 k3;simp[h3,k3] at this
  ·have h5:=hbs _ (Tn h3);have h6:=ok.rb o' b c' k3;simp at h5;omega
  ·have h5:=hbs _ (Tn k3);have h6:=ok.rb o b c h3;simp at h5;omega
  ·exact ok.inj o o' b c c' h3 k3
 ·rw[hp.block b (by omega) (fun h=>h)];exact ok.block b hb hW
 ·rcases hnew o x.1 x.2 h with⟨h1,h2,_⟩|h
  ·rw[nu (hfr o h1 h2).2] at hx;cases hx
  ·exact ok.pin o x hx h
 ·simp only[Env.after]
  rw[if_neg]
  ·exact h
  ·rintro⟨h1,h2⟩;have:=(hfr o h1 h2).1;rw[this] at h;cases h
 ·rcases h with h|h
  ·exact .inl h
  ·exact .inr (hG b h).1
theorem Sd {f:FuncId} {args:List Operand} {tys:Array TypeId} {ts:List T} {nob:List (Nat×Ob)} {avs:List AV} {eqs:List (Nat×Nat)} {res:List RV} {out:T} {nw:List (Nat×Ob)} {nx n:Nat}
 (hl:ts.length=args.length) (ha:yC nob ts=some (avs,eqs)) (hF:Fn P f avs res) (he:Eqs eqs) (hi:Cb nx res=some (out,nw,n)):
 AWN P ⟨some d,.call ⟨.value (.func f),args.toArray,tys⟩,ty,ps,af,gd⟩ (args.zip ts) nob out nw:=by
 intro cx E a w ok hn hb hfr
 have hob:∀l x,go nob l=some x→cy E w l x:=fun l x h=>hb l x (vu h)
 have hA:=DA ok hob ha he hl hn
 have hFb:∀b,Af E nob b→b<w.heap.size:=by
  rintro b ((h|⟨l,x,c,h1,h2⟩)|⟨l,h⟩)
  ·exact ok.fb b h
  ·exact(ok.rb l b c h2).1
  ·exact(ok.sf.tb l b h).1.1
 have hc:=hF.calls (Af E nob) w (args.map a.eval).toArray hFb ok.tabs (by simpa using hA)
 have hent:=hF.enters (args.map a.eval).toArray w
 unfold Oper.wp
 have hrun:(execOp a.eval ⟨some d,.call ⟨.value (.func f),args.toArray,tys⟩,ty,ps,af,gd⟩).run P w= .ok (.enter f (args.map a.eval).toArray) w:=by
  simp only[execOp,resolve,Act.eval,Deferred.ofValue,Sem.run_bind,Sem.run_pure,Result.andThen_ok,invoke]
  simpa using hent
 rw[hrun,Oper.upon_enter]
 refine hc.mono ?_
 rintro e w' ⟨v,G,bs,rfl,hp,hG,hres,hnd⟩
 have hbs:=EI hres
 have hlen:∀l,nx≤l→l<nx+bs.length→E.r l=none∧rsv l=false:=by
  have himp:=uj (E:=⟨fun o=>bs[o-nx]?,G,G,fun _ _=>False,fun _=>False,fun _=>False⟩) (fun _ h=>h) (fun b _ h=>h) hi hres (fun i p hi=>by simpa using hi)
  intro l h1 h2
  obtain⟨x,hx⟩:=himp.2.2.2 l h1 (by rw[himp.2.1];exact h2)
  exact hfr l x hx
 obtain⟨ok',ext⟩:=CN ok hp hG hbs hnd hlen
 have himp:=uj (E:=E.after nx bs G) (G:=G) (base:=w.heap.size) (fun b h=>.inr h) (fun b hb hng hF=>by
  rcases hF with h|h
  ·have:=ok.fb b h;omega
  ·exact hng h) hi hres (fun i p hi=>by
   have:i<bs.length:=(Tm.1 hi).1
   simp only[Env.after];rw[if_pos (by omega)];simpa using hi)
 refine⟨v,E.after nx bs G,rfl,ok',ext,himp.1,fun l ob hm=>(himp.2.2.1 l ob hm).1,fun l x hx=>?_⟩
 simp only[Env.after] at hx
 split at hx
 ·rename_i hh;obtain⟨x,hx⟩:=himp.2.2.2 l hh.1 (by rw[himp.2.1];exact hh.2);exact .inr ⟨x,hx⟩
 ·exact .inl hx
structure Inf where
 d:Tmp
 needs:List (Operand×T)
 nob:List (Nat×Ob)
 out:T
 nw:List (Nat×Ob)
def NS (P:Program) (N:Nat) (o:Oper) (st st':St) (x:Inf):Prop:=
 AWN P o x.needs x.nob x.out x.nw∧o.dst=some x.d∧x.d<N∧Lk st.sl x.needs∧Lo st.ob x.nob∧Nw st.nx x.nw st'.nx∧st'=⟨(x.d,x.out)::st.sl,x.nw++st.ob,st'.nx⟩
theorem db {o:Oper} {needs:List (Operand×T)} {nob nw:List (Nat×Ob)} {out:T} {n:Nat} (h:AWN P o needs nob out nw) (hd:o.dst=some d) (hN:nlt d N=true) (hn:Lk st.sl needs) (hb:Lo st.ob nob) (hw:Nw st.nx nw n):
 NS P N o st ⟨(d,out)::st.sl,nw++st.ob,n⟩ ⟨d,needs,nob,out,nw⟩:=⟨h,hd,cK hN,hn,hb,hw,rfl⟩
theorem NV {o:Oper} {st':St} {x:Inf} (h:NS P N o st st' x):AWO P N o st st':=by
 obtain⟨h1,h2,h3,h4,h5,h6,h7⟩:=h
 rw[h7]
 exact HY h1 h2 h3 h4 h5 h6
theorem rU {ops:Array Oper} {l:List Oper} {o:Oper} {st':St} {x:Inf} {K:St→Prop} (hg:o.guard=none) (h:NS P N o st st' x) (h':AWR P N ops l st' K):AWR P N ops (o::l) st K:=eS hg (NV h) h'
theorem DY {ops:Array Oper} {l:List Oper} {o:Oper} {st':St} {x:Inf} {K:St→Prop} {j:Nat} {dj:Tmp} {b:Bool} (hg:o.guard=some (j,b)) (hj:(ops[j]?).bind (·.dst)=some dj) (hdj:nlt dj N=true) (hb:gt st.sl dj=tB b) (h:NS P N o st st' x)
 (h':AWR P N ops l st' K):AWR P N ops (o::l) st K:=js hg hj (cK hdj) hb (NV h) h'
def DS (P:Program) (N:Nat) (ops:Array Oper) (o:Oper) (st st':St) (x:Inf):Prop:=
 (o.guard=none∧NS P N o st st' x)∨
 (∃j dj b y,o.guard=some (j,b)∧(ops[j]?).bind (·.dst)=some dj∧dj<N∧gt st.sl dj=tB b∧NS P N o st st' y∧x={y with needs:=(.tmp dj,tB b)::y.needs})∨
 (∃j dj b d,o.guard=some (j,b)∧(ops[j]?).bind (·.dst)=some dj∧dj<N∧noG b (gt st.sl dj)=true∧o.dst=some d∧d<N∧x=⟨d,[(.tmp dj,gt st.sl dj)],[],.tup [],[]⟩∧st'=⟨(d,.tup [])::st.sl,st.ob,st.nx⟩)
def uJ (s t:St):Prop:=(∀k,gt s.sl k=gt t.sl k)∧s.ob=t.ob∧s.nx=t.nx
def DR (P:Program) (N:Nat) (ops:Array Oper):List Oper→List Inf→St→(List Inf→St→Prop)→Prop
 |[],is,st,K=>K is st
 |o::r,is,st,K=>∃x st1 st',DS P N ops o st st1 x∧uJ st1 st'∧DR P N ops r (is++[x]) st' K
section
variable {ops:Array Oper} {l:List Oper} {o:Oper} {st':St} {x:Inf} {K:List Inf→St→Prop} {is:List Inf}
theorem RG (h:K is st):DR P N ops [] is st K:=h
theorem uJ.refl (s:St):uJ s s:=⟨fun _=>rfl,rfl,rfl⟩
theorem dr_n (hg:o.guard=none) (h:NS P N o st st' x) (h':DR P N ops l (is++[x]) st' K):DR P N ops (o::l) is st K:=⟨x,st',st',.inl ⟨hg,h⟩,.refl _,h'⟩
theorem Q8 {j:Nat} {dj:Tmp} {b:Bool} (hg:o.guard=some (j,b)) (hj:(ops[j]?).bind (·.dst)=some dj) (hdj:nlt dj N=true) (hb:gt st.sl dj=tB b) (h:NS P N o st st' x)
 (h':DR P N ops l (is++[{x with needs:=(.tmp dj,tB b)::x.needs}]) st' K):DR P N ops (o::l) is st K:=⟨_,st',st',.inr (.inl ⟨j,dj,b,x,hg,hj,cK hdj,hb,h,rfl⟩),.refl _,h'⟩
theorem PN {j:Nat} {dj d:Tmp} {b:Bool} (hg:o.guard=some (j,b)) (hj:(ops[j]?).bind (·.dst)=some dj) {t:T} (hdj:nlt dj N=true) (ht:gt st.sl dj=t) (hb:noG b t=true) (hd:o.dst=some d) (hN:nlt d N=true)
 (h':DR P N ops l (is++[⟨d,[(.tmp dj,t)],[],.tup [],[]⟩]) ⟨(d,.tup [])::st.sl,st.ob,st.nx⟩ K):DR P N ops (o::l) is st K:=
 ⟨_,_,_,.inr (.inr ⟨j,dj,b,d,hg,hj,cK hdj,by rw[ht];exact hb,hd,cK hN,by rw[ht],rfl⟩),.refl _,h'⟩
theorem yT {d:Tmp} {b c:Bool} (hb:gt st.sl d=tB b) (h:b=c):uJ st ⟨(d,tB c)::st.sl,st.ob,st.nx⟩:=by
 refine⟨fun k=>?_,rfl,rfl⟩
 by_cases hk:d=k
 ·subst hk;rw[dL,hb,h]
 ·rw[cR _ _ hk]
end
end
end Go.AM
namespace Go.AM
open Go.RowKit
theorem ov {s t:List (Nat×T)} (h:∀k,gt s k=gt t k) (x:Operand):opT s x=opT t x:=by
 cases x with
 |tmp k=>exact h k
 |const v=>cases v<;>rfl
 |_=>rfl
theorem Je {s t:List (Nat×T)} (h:∀k,gt s k=gt t k):∀{l:List (Operand×T)},Lk s l→Lk t l
 |[],_=>trivial
 |(x,v)::r,hl=>⟨by rw[←ov h];exact hl.1,Je h hl.2⟩
section
variable {P:Program} {N:Nat} {ops:Array Oper} {l:List Oper} {o:Oper} {st st' st2:St} {K:List Inf→St→Prop} {is:List Inf}
theorem Hh {s t:St} (h:uJ s t) (d:Tmp) (v:T) (nw:List (Nat×Ob)) (n:Nat):uJ ⟨(d,v)::s.sl,nw++s.ob,n⟩ ⟨(d,v)::t.sl,nw++t.ob,n⟩:=by
 refine⟨fun k=>?_,by rw[h.2.1],rfl⟩
 by_cases hk:d=k
 ·subst hk;rw[dL,dL]
 ·rw[cR _ _ hk,cR _ _ hk];exact h.1 k
theorem uJ.trans {a b c:St} (h:uJ a b) (k:uJ b c):uJ a c:=⟨fun i=>(h.1 i).trans (k.1 i),h.2.1.trans k.2.1,h.2.2.trans k.2.2⟩
theorem Ka {x:Inf} (h:uJ st st2) (hn:NS P N o st2 st' x):∃s',NS P N o st s' x∧uJ s' st':=by
 obtain⟨h1,h2,h3,h4,h5,h6,h7⟩:=hn
 refine⟨⟨(x.d,x.out)::st.sl,x.nw++st.ob,st'.nx⟩,⟨h1,h2,h3,Je (fun k=>(h.1 k).symm) h4,by rw[h.2.1];exact h5,by rw[h.2.2];exact h6,rfl⟩,?_⟩
 rw[h7]
 exact Hh h _ _ _ _
theorem Jy (h:uJ st st2) (hd:DR P N ops (o::l) is st2 K):DR P N ops (o::l) is st K:=by
 obtain⟨x,st1,st',hds,hs,hr⟩:=hd
 rcases hds with⟨hg,hn⟩|⟨j,dj,b,y,hg,hj,hdj,hb,hn,rfl⟩|⟨j,dj,b,d,hg,hj,hdj,hb,hd,hN,rfl,rfl⟩
 ·obtain⟨s',k1,k2⟩:=Ka h hn
  exact⟨x,s',st',.inl ⟨hg,k1⟩,k2.trans hs,hr⟩
 ·obtain⟨s',k1,k2⟩:=Ka h hn
  exact⟨_,s',st',.inr (.inl ⟨j,dj,b,y,hg,hj,hdj,by rw[h.1];exact hb,k1,rfl⟩),k2.trans hs,hr⟩
 ·refine⟨_,⟨(d,.tup [])::st.sl,st.ob,st.nx⟩,st',.inr (.inr ⟨j,dj,b,d,hg,hj,hdj,by rw[h.1];exact hb,hd,hN,by rw[h.1],rfl⟩),uJ.trans ?_ hs,hr⟩
  have:=Hh h d (.tup []) [] st.nx
  refine⟨this.1,this.2.1,h.2.2⟩
theorem MT {d:Tmp} {b:Bool} (hb:gt st.sl d=tB b) (h1:b=true→DR P N ops (o::l) is ⟨(d,tB true)::st.sl,st.ob,st.nx⟩ K) (h0:b=false→DR P N ops (o::l) is ⟨(d,tB false)::st.sl,st.ob,st.nx⟩ K):DR P N ops (o::l) is st K:=by
 cases hc:b with
 |true=>exact Jy (yT hb hc) (h1 hc)
 |false=>exact Jy (yT hb hc) (h0 hc)
end
def gv:List (Operand×T)→List Nat
 |[]=>[]
 |(.tmp k,_)::r=>k::gv r
 |_::r=>gv r
def anc (ops:Array Oper):Nat→Nat→Nat→Bool
 |0,_,_=>false
 |n+1,i,j=>match ops[i]? with
  |none=>false
  |some o=>o.after.toList.any fun e=>Region.binds .any e&&(d0 e.on j||anc ops n e.on j)
def qa (is:List Inf) (k:Nat):Option Nat:=is.findIdx? fun x=>d0 x.d k
def JX (is:List Inf) (l:Nat):Option Nat:=is.findIdx? fun x=>x.nw.any fun p=>d0 p.1 l
def n9:List Inf→Bool
 |[]=>true
 |x::xs=>!(xs.any fun y=>d0 x.d y.d)&&n9 xs
def Ar (ops:Array Oper) (is:List Inf) (nx:Nat):Bool:=
 d0 is.length ops.size&&n9 is&&
 (TU is.length).all fun i=>match is[i]?,ops[i]? with
  |some x,some o=>
   (o.after.toList.all fun e=>!Region.binds .any e||nlt e.on i)&&
   ((gv x.needs).all fun k=>match qa is k with
    |none=>true
    |some j=>if nlt j i then anc ops is.length i j else d0 i j||anc ops is.length j i)&&
   (x.nob.all fun p=>nlt p.1 nx||match JX is p.1 with
    |none=>false
    |some j=>anc ops is.length i j)
  |_,_=>false
def after (base:St):List Inf→List (Nat×T)×List (Nat×Ob)
 |is=>(is.foldl (fun s x=>(x.d,x.out)::s) base.sl,is.foldl (fun s x=>x.nw++s) base.ob)
def qJ (base:St) (is:List Inf):List (Nat×T):=is.foldl (fun s x=>(x.d,x.out)::s) base.sl
def Ck (base:St) (is:List Inf):List (Nat×Ob):=is.foldl (fun s x=>x.nw++s) base.ob
theorem uC (base:St) (is:List Inf) (x:Inf):qJ base (is++[x])=(x.d,x.out)::qJ base is:=by simp[qJ]
theorem C4 (base:St) (is:List Inf) (x:Inf):Ck base (is++[x])=x.nw++Ck base is:=by simp[Ck]
def Ru (P:Program) (N:Nat) (ops:Array Oper) (base:St) (pre:List Inf) (o:Oper) (x:Inf):Prop:=
 (∀y t,(y,t)∈x.needs→opT (qJ base pre) y=t)∧(∀l ob,(l,ob)∈x.nob→go (Ck base pre) l=some ob)∧o.dst=some x.d∧x.d<N∧
 ((o.guard=none∧AWN P o x.needs x.nob x.out x.nw)∨
  (∃j dj b ys,o.guard=some (j,b)∧(ops[j]?).bind (·.dst)=some dj∧dj<N∧x.needs=(.tmp dj,tB b)::ys∧AWN P o ys x.nob x.out x.nw)∨
  (∃j dj b t,o.guard=some (j,b)∧(ops[j]?).bind (·.dst)=some dj∧dj<N∧x.needs=[(.tmp dj,t)]∧noG b t=true∧x.out= .tup []∧x.nw=[]))
def eB (nx:Nat):List Inf→Nat→Prop
 |[],n=>n=nx
 |x::xs,n=>∃m,Nw nx x.nw m∧eB m xs n
theorem eB.snoc {x:Inf}:∀{is:List Inf} {nx n m:Nat},eB nx is n→Nw n x.nw m→eB nx (is++[x]) m
 |[],nx,n,m,h,h'=>by have:n=nx:=h;subst this;exact⟨m,h',rfl⟩
 |y::ys,nx,n,m,⟨k,h1,h2⟩,h'=>⟨k,h1,eB.snoc h2 h'⟩
theorem Jz {P:Program} {N:Nat} {ops:Array Oper} {base:St} {K:List Inf→St→Prop}:∀{l:List Oper} {is:List Inf} {st:St},DR P N ops l is st K→(∀k,gt st.sl k=gt (qJ base is) k)→st.ob=Ck base is→eB base.nx is st.nx→
 ∃xs st',xs.length=l.length∧(∀(i:Nat) (o:Oper) (x:Inf),l[i]?=some o→xs[i]?=some x→Ru P N ops base (is++xs.take i) o x)∧eB base.nx (is++xs) st'.nx∧(∀k,gt st'.sl k=gt (qJ base (is++xs)) k)∧st'.ob=Ck base (is++xs)∧K (is++xs) st'
 |[],is,st,h,h1,h2,h3=>⟨[],st,rfl,by simp,by simpa using h3,by simpa using h1,by simpa using h2,by simpa [DR] using h⟩
 |o::l,is,st,⟨x,st1,st2,hds,hsame,hr⟩,h1,h2,h3=>by
  have hput:∀(out:T) (nw:List (Nat×Ob)) (n:Nat),x.out=out→x.nw=nw→st1=⟨(x.d,out)::st.sl,nw++st.ob,n⟩→Nw st.nx nw n→((∀k,gt st2.sl k=gt (qJ base (is++[x])) k)∧st2.ob=Ck base (is++[x]))∧eB base.nx (is++[x]) st2.nx:=by
   rintro out nw n rfl rfl rfl hnw
   refine⟨⟨fun k=>?_,?_⟩,?_⟩
   ·rw[←hsame.1 k,uC]
    by_cases hk:x.d=k
    ·rw[hk,dL,dL]
    ·rw[cR _ _ hk,cR _ _ hk];exact h1 k
   ·rw[←hsame.2.1,C4,h2]
   ·rw[←hsame.2.2];exact h3.snoc hnw
  have key:Ru P N ops base is o x∧((∀k,gt st2.sl k=gt (qJ base (is++[x])) k)∧st2.ob=Ck base (is++[x]))∧eB base.nx (is++[x]) st2.nx:=by
   rcases hds with⟨hg,k1,k2,k3,k4,k5,k6,k7⟩|⟨j,dj,b,y,hg,hj,hdj,hb,⟨k1,k2,k3,k4,k5,k6,k7⟩,rfl⟩|⟨j,dj,b,d,hg,hj,hdj,hb,hd,hN,rfl,rfl⟩
   ·exact⟨⟨fun y t hm=>by rw[←ov h1];exact Lk.mem k4 y t hm,fun l' ob hm=>by rw[←h2];exact Lo.mem k5 l' ob hm,k2,k3,.inl ⟨hg,k1⟩⟩,hput _ _ _ rfl rfl k7 k6⟩
   ·refine⟨⟨fun y' t hm=>?_,fun l' ob hm=>by rw[←h2];exact Lo.mem k5 l' ob hm,k2,k3,.inr (.inl ⟨j,dj,b,y.needs,hg,hj,hdj,rfl,k1⟩)⟩,hput _ _ _ rfl rfl k7 k6⟩
    rw[←ov h1]
    rcases Tq.1 hm with e|hm
    ·cases e;exact hb
    ·exact Lk.mem k4 y' t hm
   ·refine⟨⟨fun y' t hm=>?_,by simp,hd,hN,.inr (.inr ⟨j,dj,b,_,hg,hj,hdj,rfl,hb,rfl,rfl⟩)⟩,hput (.tup []) [] st.nx rfl rfl rfl rfl⟩
    rw[←ov h1]
    simp at hm;obtain⟨rfl,rfl⟩:=hm;rfl
  obtain⟨hT,⟨m1,m2⟩,m3⟩:=key
  obtain⟨xs,st',n1,n2,n3,n4,n5,n6⟩:=Jz hr m1 m2 m3
  refine⟨x::xs,st',by simp[n1],fun i o' x' hi hx=>?_,by simpa using n3,by simpa using n4,by simpa using n5,by simpa using n6⟩
  cases i with
  |zero=>simp at hi hx;subst hi;subst hx;simpa using hT
  |succ i=>have:=n2 i o' x' (by simpa using hi) (by simpa using hx);simpa using this
end Go.AM
namespace Go.AM
open Go.RowKit
theorem Fi {α:Type} {p:List α→Prop} (h0:p []) (h1:∀l x,p l→p (l++[x])) (l:List α):p l:=by
 have key:∀l:List α,p l.reverse:=by
  intro l
  induction l with
  |nil=>exact h0
  |cons x l ih=>rw[List.reverse_cons];exact h1 _ x ih
 have:=key l.reverse
 rwa [List.reverse_reverse] at this
theorem nX {ops:Array Oper} {listed:Array Bool} (hc:∀i o,ops[i]?=some o→listed.getD i false=true→∀e∈o.after,Region.binds .any e=true→listed.getD e.on false=true):
 ∀(n i j:Nat),anc ops n i j=true→(∃o,ops[i]?=some o∧∀e∈o.after,Region.binds .any e=true→listed.getD e.on false=true)→listed.getD j false=true
 |0,i,j,h,_=>by simp[anc] at h
 |n+1,i,j,h,⟨o,ho,hd⟩=>by
  simp only[anc,ho,Ug,hV,T8] at h
  obtain⟨e,he,hb,h⟩:=h
  have hl:=hd e (by simpa using he) hb
  rcases h with h|h
  ·rw[←To h];exact hl
  ·cases ho':ops[e.on]? with
   |none=>cases n<;>simp[anc,ho'] at h
   |some o'=>exact nX hc n e.on j h ⟨o',ho',hc e.on o' ho' hl⟩
theorem oc:∀{is:List Inf},n9 is=true→∀(i j:Nat) (x y:Inf),is[i]?=some x→is[j]?=some y→x.d=y.d→i=j
 |[],_,i,j,x,y,h,_,_=>by simp at h
 |z::is,h,i,j,x,y,hi,hj,he=>by
  simp only[n9,hV,Ue] at h
  have hno:∀(k:Nat) (v:Inf),is[k]?=some v→z.d≠v.d:=fun k v hk e=>by
   have:(is.any fun y=>d0 z.d y.d)=true:=Ug.2 ⟨v,Tn hk,by simp[e]⟩
   rw[this] at h;exact absurd h.1 (by simp)
  cases i with
  |zero=>
   cases j with
   |zero=>rfl
   |succ j=>simp at hi hj;subst hi;exact absurd he (hno j y hj)
  |succ i=>
   cases j with
   |zero=>simp at hi hj;subst hj;exact absurd he.symm (hno i x hi)
   |succ j=>have:=oc h.2 i j x y (by simpa using hi) (by simpa using hj) he;omega
theorem uB {base:St}:∀(is:List Inf) (k:Nat),(∀x∈is,x.d≠k)→gt (qJ base is) k=gt base.sl k:=by
 intro is
 refine Fi (p:=fun is=>∀(k:Nat),(∀x∈is,x.d≠k)→gt (qJ base is) k=gt base.sl k) ?_ ?_ is
 ·intro k _;rfl
 ·intro is x ih k h
  rw[uC,cR _ _ (h x (by simp))]
  exact ih k fun y hy=>h y (by simp[hy])
theorem rN {base:St}:∀(is:List Inf) (i:Nat) (x:Inf),is[i]?=some x→(∀(j:Nat) (y:Inf),is[j]?=some y→y.d=x.d→j=i)→gt (qJ base is) x.d=x.out:=by
 intro is
 refine Fi (p:=fun is=>∀(i:Nat) (x:Inf),is[i]?=some x→(∀(j:Nat) (y:Inf),is[j]?=some y→y.d=x.d→j=i)→gt (qJ base is) x.d=x.out) ?_ ?_ is
 ·intro i x h;simp at h
 ·intro is z ih i x h hu
  rw[uC]
  by_cases hi:i<is.length
  ·rw[Tu hi] at h
   have hz:z.d≠x.d:=fun e=>by
    have:=hu is.length z (by simp) e
    omega
   rw[cR _ _ hz]
   exact ih i x h fun j y hj he=>hu j y (by rw[Tu (Tm.1 hj).1];exact hj) he
  ·rw[Tz (by omega)] at h
   have:i-is.length=0:=by
    rcases Nat.eq_zero_or_pos (i-is.length) with h0|h0
    ·exact h0
    ·rw[List.getElem?_eq_none (by simp;omega)] at h;cases h
   rw[this] at h;simp at h;subst h
   exact dL _ _ _
theorem JJ {base:St}:∀(is:List Inf) (l:Nat) (ob:Ob),go (Ck base is) l=some ob→(∃(j:Nat) (x:Inf),is[j]?=some x∧(l,ob)∈x.nw)∨go base.ob l=some ob:=by
 intro is
 refine Fi (p:=fun is=>∀(l:Nat) (ob:Ob),go (Ck base is) l=some ob→(∃(j:Nat) (x:Inf),is[j]?=some x∧(l,ob)∈x.nw)∨go base.ob l=some ob) ?_ ?_ is
 ·intro l ob h;exact .inr h
 ·intro is z ih l ob h
  rw[C4] at h
  rcases xW h with h|h
  ·exact .inl ⟨is.length,z,by simp,h⟩
  ·rcases ih l ob h with⟨j,x,h1,h2⟩|h
   ·exact .inl ⟨j,x,by rw[Tu (Tm.1 h1).1];exact h1,h2⟩
   ·exact .inr h
theorem iD:∀{is:List Inf} {nx n:Nat},eB nx is n→nx≤n∧∀(j:Nat) (x:Inf) (l:Nat) (ob:Ob),is[j]?=some x→(l,ob)∈x.nw→nx≤l∧l<n
 |[],nx,n,h=>⟨by have:n=nx:=h;omega,by simp⟩
 |y::ys,nx,n,⟨m,h1,h2⟩=>by
  obtain⟨a1,a2⟩:=Nw.mem h1
  obtain⟨b1,b2⟩:=iD h2
  refine⟨by omega,fun j x l ob hj hm=>?_⟩
  cases j with
  |zero=>simp at hj;subst hj;have:=a2 l ob hm;omega
  |succ j=>have:=b2 j x l ob (by simpa using hj) hm;omega
theorem Kc:∀{nw:List (Nat×Ob)} {nx n:Nat},Nw nx nw n→∀l x y,(l,x)∈nw→(l,y)∈nw→x=y
 |[],_,_,_,l,x,y,h,_=>by simp at h
 |(k,z)::r,nx,n,h,l,x,y,h1,h2=>by
  rw[Nw] at h
  have hr:=(Nw.mem h.2).2
  rcases Tq.1 h1 with e1|h1<;>rcases Tq.1 h2 with e2|h2
  ·cases e1;cases e2;rfl
  ·cases e1;have:=hr _ _ h2;omega
  ·cases e2;have:=hr _ _ h1;omega
  ·exact Kc h.2 l x y h1 h2
theorem AL:∀{is:List Inf} {nx n:Nat},eB nx is n→∀(j:Nat) (x:Inf) (l:Nat) (ob:Ob),is[j]?=some x→(l,ob)∈x.nw→rsv l=false
 |[],_,_,_,_,_,_,_,h,_=>by simp at h
 |y::ys,nx,n,⟨m,h1,h2⟩,0,x,l,ob,hx,hm=>by
  simp at hx;subst hx
  exact((Nw.mem h1).2 l ob hm).2.2
 |y::ys,nx,n,⟨m,h1,h2⟩,j+1,x,l,ob,hx,hm=>AL h2 j x l ob (by simpa using hx) hm
theorem ul:∀{is:List Inf} {nx n:Nat},eB nx is n→∀(j j':Nat) (x x':Inf) (l:Nat) (ob ob':Ob),is[j]?=some x→is[j']?=some x'→(l,ob)∈x.nw→(l,ob')∈x'.nw→j=j'∧ob=ob'
 |[],nx,n,h,j,j',x,x',l,ob,ob',h1,_,_,_=>by simp at h1
 |y::ys,nx,n,⟨m,h1,h2⟩,j,j',x,x',l,ob,ob',hj,hj',hm,hm'=>by
  have a2:=(Nw.mem h1).2
  have b2:=(iD h2).2
  cases j with
  |zero=>
   cases j' with
   |zero=>simp at hj hj';subst hj;subst hj';exact⟨rfl,Kc h1 l ob ob' hm hm'⟩
   |succ j'=>simp at hj;subst hj;have k1:=a2 l ob hm;have k2:=b2 j' x' l ob' (by simpa using hj') hm';omega
  |succ j=>
   cases j' with
   |zero=>simp at hj';subst hj';have k1:=a2 l ob' hm';have k2:=b2 j x l ob (by simpa using hj) hm;omega
   |succ j'=>have:=ul h2 j j' x x' l ob ob' (by simpa using hj) (by simpa using hj') hm hm';exact⟨by omega,this.2⟩
structure Inv (P:Program) (N:Nat) (cx:Cx) (base:St) (is:List Inf) (listed:Array Bool) (a:Act) (w:World) (E:Env):Prop where
 ok:cQ cx E w
 dom:∀l x,E.r l=some x→l<base.nx∨∃j y ob,listed.getD j false=true∧is[j]?=some y∧(l,ob)∈y.nw
 obs:∀l ob,go base.ob l=some ob→cy E w l ob
 new:∀j y l ob,listed.getD j false=true→is[j]?=some y→(l,ob)∈y.nw→cy E w l ob
 out:∀j y,listed.getD j false=true→is[j]?=some y→cvT E w y.out (a.tmps.getD y.d undef)
 old:∀k,(∀j y,listed.getD j false=true→is[j]?=some y→y.d≠k)→cvT E w (gt base.sl k) (a.tmps.getD k undef)
 dfr:a.defers=[]
 size:a.tmps.size=N
 td:∀l b,E.T l b→l<base.nx
theorem bX {listed:Array Bool} {i j:Nat} (hi:i<listed.size):(listed.setIfInBounds i true).getD j false=if i=j then true else listed.getD j false:=by
 by_cases h:i=j
 ·subst h;simp[hi]
 ·simp[h,Array.getElem?_setIfInBounds_ne h]
section
variable {P:Program} {N:Nat} {cx:Cx} {ops:Array Oper} {base:St} {is:List Inf} {Q:Exit→Act→World→Prop}
theorem Nt {listed:Array Bool} {a:Act} {w:World} {E:Env} (hI:Inv P N cx base is listed a w E) {nmax:Nat} (hlab:eB base.nx is nmax) (hdst:n9 is=true) {i:Nat} {x:Inf} (hx:is[i]?=some x) (hil:i<listed.size)
 (hun:listed.getD i false=false) (hdN:x.d<N) {v:Value} {E':Env} {w':World} (ok':cQ cx E' w') (ext:Ext E w E' w') (hv:cvT E' w' x.out v) (hnw:∀l ob,(l,ob)∈x.nw→cy E' w' l ob)
 (hdom:∀l y,E'.r l=some y→E.r l=some y∨∃ob,(l,ob)∈x.nw):Inv P N cx base is (listed.setIfInBounds i true) (a.put (some x.d) v) w' E':=by
 have hk:=iq.of_ext hI.ok ext
 have hd':∀j y,is[j]?=some y→j≠i→y.d≠x.d:=fun j y hj hne he=>hne (oc hdst j i y x hj hx he)
 refine⟨ok',fun l y hl=>?_,fun l ob hl=>yg hI.ok ext (hI.obs l ob hl),fun j y l ob hj hy hm=>?_,fun j y hj hy=>?_,fun k hkk=>?_,hI.dfr,by simpa [Act.put] using hI.size,fun l b h=>hI.td l b (by rw[←ext.T];exact h)⟩
 ·rcases hdom l y hl with h|⟨ob,h⟩
  ·rcases hI.dom l y h with h|⟨j,z,ob,h1,h2,h3⟩
   ·exact .inl h
   ·refine .inr ⟨j,z,ob,?_,h2,h3⟩
    rw[bX hil];split
    ·rfl
    ·exact h1
  ·exact .inr ⟨i,x,ob,by rw[bX hil,if_pos rfl],hx,h⟩
 ·by_cases hji:i=j
  ·subst hji;rw[hx] at hy;cases hy;exact hnw l ob hm
  ·rw[bX hil,if_neg hji] at hj;exact yg hI.ok ext (hI.new j y l ob hj hy hm)
 ·by_cases hji:i=j
  ·subst hji;rw[hx] at hy;cases hy
   rw[fO (by rw[hI.size];exact hdN),if_pos rfl];exact hv
  ·rw[bX hil,if_neg hji] at hj
   rw[fO (by rw[hI.size];exact hdN),if_neg (Ne.symm (hd' j y hy (Ne.symm hji)))]
   exact ie hk (hI.out j y hj hy)
 ·have hxk:x.d≠k:=hkk i x (by rw[bX hil,if_pos rfl]) hx
  rw[fO (by rw[hI.size];exact hdN),if_neg hxk]
  refine ie hk (hI.old k fun j y hj hy=>hkk j y ?_ hy)
  rw[bX hil];split
  ·rfl
  ·exact hj
theorem Jd (hN:is.length=ops.size) {nmax:Nat} (hlab:eB base.nx is nmax) (hdst:n9 is=true) (hbk:∀l ob,go base.ob l=some ob→l<base.nx)
 (hedge:∀i o,ops[i]?=some o→∀e∈o.after,Region.binds .any e=true→e.on<i)
 (hslot:∀i x,is[i]?=some x→∀k∈gv x.needs,∀j,qa is k=some j→if nlt j i then anc ops is.length i j=true else(i=j∨anc ops is.length j i=true))
 (hobj:∀i x,is[i]?=some x→∀p∈x.nob,p.1<base.nx∨∃j,JX is p.1=some j∧anc ops is.length i j=true)
 (htold:∀(i:Nat) (o:Oper) (x:Inf),ops[i]?=some o→is[i]?=some x→Ru P N ops base (is.take i) o x)
 (hfin:∀listed a w E,(∀j,j<ops.size→listed.getD j false=true)→Inv P N cx base is listed a w E→Q .normal a w):
 ∀(fuel:Nat) (listed:Array Bool) (a:Act) (w:World) (E:Env),listed.size=ops.size→((TU ops.size).filter fun i=>!listed.getD i false).length=fuel→
  (∀i o,ops[i]?=some o→listed.getD i false=true→∀e∈o.after,Region.binds .any e=true→listed.getD e.on false=true)→Inv P N cx base is listed a w E→wpAny P .any ops Q fuel listed a w:=by
 have hall:∀(listed:Array Bool),((TU ops.size).filter fun i=>!listed.getD i false).length=0→∀j,j<ops.size→listed.getD j false=true:=by
  intro listed h j hj
  have:=Ui h
  have h2:=List.filter_eq_nil_iff.1 this j (by simpa using hj)
  simpa using h2
 intro fuel
 induction fuel with
 |zero=>
  intro listed a w E hsz hc hcl hI
  have hal:=hall listed hc
  refine⟨?_,hfin listed a w E hal hI⟩
  rw[List.eq_nil_iff_forall_not_mem]
  intro i hi
  obtain⟨h1,o,h2,h3⟩:=mem_ready.1 hi
  have hil:i<ops.size:=by
   rcases T9 i ops.size with h|h
   ·exact h
   ·rw[Ub h] at h2;cases h2
  have:=hal i hil
  rw[Uf,TA (by omega)] at this h1
  simp at this h1
  rw[this] at h1;cases h1
 |succ fuel ih=>
  intro listed a w E hsz hc hcl hI
  refine⟨fun h0=>?_,fun i hi=>?_⟩
  ·
    exfalso
    have hex:∃i,i<ops.size∧listed.getD i false=false:=by
     have:((TU ops.size).filter fun i=>!listed.getD i false)≠[]:=fun e=>by rw[e] at hc;simp at hc
     obtain⟨i,hi⟩:=List.exists_mem_of_ne_nil _ this
     simp only[List.mem_filter,List.mem_range,Ue] at hi
     exact⟨i,hi.1,hi.2⟩
    have hmin:∀n i,i≤n→i<ops.size→listed.getD i false=false→∃i,i∈Region.ready .any ops listed:=by
     intro n
     induction n using Nat.strongRecOn with
     |_ n ihn=>
      intro i hin his hif
      by_cases hd:∀e∈ops[i].after,Region.binds .any e=true→listed.getD e.on false=true
      ·refine⟨i,mem_ready.2 ⟨?_,ops[i],TA his,hd⟩⟩
       rw[Uf,TA (by omega)] at hif ⊢
       simpa using hif
      ·simp only[Classical.not_forall] at hd
       obtain⟨e,he,hb,hne⟩:=hd
       have hlt:=hedge i ops[i] (TA his) e he hb
       exact ihn e.on (by omega) e.on (Tt _) (by omega) (by simpa using hne)
    obtain⟨i,h1,h2⟩:=hex
    obtain⟨j,hj⟩:=hmin i i (Tt _) h1 h2
    rw[h0] at hj;cases hj
  ·obtain⟨h1,o,ho,hd⟩:=mem_ready.1 hi
   have hio:i<ops.size:=by
    rcases T9 i ops.size with h|h
    ·exact h
    ·rw[Ub h] at ho;cases ho
   have hun:listed.getD i false=false:=by
    rw[Uf,TA (by omega)] at h1 ⊢
    simpa using h1
   obtain⟨x,hx⟩:∃x,is[i]?=some x:=⟨_,v0 (by omega)⟩
   obtain⟨t1,t2,t3,t4,t5⟩:=htold i o x ho hx
   have hanc:∀j,anc ops is.length i j=true→listed.getD j false=true:=fun j hj=>nX hcl _ i j hj ⟨o,ho,hd⟩
   have hneeds:∀y t,(y,t)∈x.needs→cvT E w t (a.eval y):=by
    intro y t hm
    have ht:=t1 y t hm
    cases y with
    |tmp k=>
     have hks:k∈gv x.needs:=by
      have key:∀(l:List (Operand×T)),(Operand.tmp k,t)∈l→k∈gv l:=by
       intro l
       induction l with
       |nil=>intro h;cases h
       |cons p r ihl=>
        intro h
        rcases Tq.1 h with e|h
        ·rw[←e];simp[gv]
        ·have h9:=ihl h;obtain⟨z,u⟩:=p;cases z<;>simp[gv,h9]
      exact key _ hm
     show cvT E w t (a.tmps.getD k undef)
     have ht':gt (qJ base (is.take i)) k=t:=ht
     cases hw:qa is k with
     |none=>
      have hno:∀z∈is,z.d≠k:=by
       intro z hz e
       have:=Uo.1 hw z hz
       rw[e] at this;simp at this
      rw[uB _ _ (fun z hz=>hno z (List.mem_of_mem_take hz))] at ht'
      rw[←ht']
      exact hI.old k fun j y _ hy=>hno y (Tn hy)
     |some j=>
      have hs:=hslot i x hx k hks j hw
      obtain⟨hjl,hjp,_⟩:=Um.1 hw
      have hjd:is[j].d=k:=To hjp
      have hju:∀j' y,is[j']?=some y→y.d=k→j'=j:=fun j' y hy he=>oc hdst j' j y is[j] hy (v0 hjl) (by rw[he,hjd])
      by_cases hji:j<i
      ·rw[if_pos (by simp[nlt];omega)] at hs
       have hdone:=hanc j hs
       have:=hI.out j is[j] hdone (v0 hjl)
       rw[hjd] at this
       have h9:=rN (base:=base) (is.take i) j is[j] (by rw[TB,if_pos hji];exact v0 hjl) (fun j' y hy he=>hju j' y (by rw[TB] at hy;split at hy;exact hy;cases hy) (by rw[he,hjd]))
       rw[hjd] at h9
       rw[←ht',h9];exact this
      ·rw[if_neg (by simp[nlt];omega)] at hs
       rw[uB _ _ (fun z hz e=>by
        obtain⟨j',hj'⟩:=T0 hz
        rw[TB] at hj'
        split at hj'
        ·rename_i hlt;have:=hju j' z hj' e;omega
        ·cases hj')] at ht'
       rw[←ht']
       refine hI.old k fun j' y hj' hy he=>?_
       have hjj:=hju j' y hy he
       subst hjj
       rcases hs with rfl|hs
       ·rw[hun] at hj';cases hj'
       ·have:listed.getD i false=true:=nX hcl _ j' i hs (by
         obtain⟨o',ho'⟩:∃o',ops[j']?=some o':=⟨_,TA (by omega)⟩
         exact⟨o',ho',hcl j' o' ho' hj'⟩)
        rw[hun] at this;cases this
    |const v=>have:=(show Rel N cx E ⟨[],[],base.nx⟩ a w→cvT E w (opT [] (.const v)) (a.eval (.const v)) from fun h=>h.op _);rw[←ht];cases v<;>simp only[opT,Act.eval,cvT,cvV]<;>first|exact ub E w _|exact⟨_,rfl,qc E w _⟩|(simp only[cvC,rdD])
    |func f=>rw[←ht];simp[opT,Act.eval,cvT,cvV,cvC]
    |global g=>rw[←ht];trivial
   have hnob:∀l ob,(l,ob)∈x.nob→cy E w l ob:=by
    intro l ob hm
    have hgo:=t2 l ob hm
    rcases JJ _ _ _ hgo with⟨j,y,hj,hy⟩|h
    ·rw[TB] at hj
     split at hj
     ·rename_i hji
      have hlr:=(iD hlab).2 j y l ob hj hy
      rcases hobj i x hx (l,ob) hm with h|⟨j',hj',hanc'⟩
      ·simp at h;omega
      ·obtain⟨hjl,hjp,_⟩:=Um.1 hj'
       obtain⟨p,hp1,hp2⟩:=Ug.1 hjp
       obtain⟨pl,pob⟩:=p
       have hpl:pl=l:=To hp2
       subst hpl
       have:=ul hlab j j' y is[j'] pl ob pob hj (v0 hjl) hy hp1
       exact hI.new j y pl ob (by rw[this.1];exact hanc j' hanc') hj hy
     ·cases hj
    ·exact hI.obs l ob h
   have hfresh:∀l ob,(l,ob)∈x.nw→E.r l=none:=by
    intro l ob hm
    cases hr:E.r l with
    |none=>rfl
    |some p=>
     have hlr:=(iD hlab).2 i x l ob hx hm
     rcases hI.dom l p hr with h|⟨j,y,ob',h1,h2,h3⟩
     ·omega
     ·have:=(ul hlab i j x y l ob ob' hx h2 hm h3).1
      subst this;rw[hun] at h1;cases h1
   have hnext:∀v E' w',cQ cx E' w'→Ext E w E' w'→cvT E' w' x.out v→(∀l ob,(l,ob)∈x.nw→cy E' w' l ob)→(∀l y,E'.r l=some y→E.r l=some y∨∃ob,(l,ob)∈x.nw)→
    wpAny P .any ops Q fuel (listed.setIfInBounds i true) (a.put (some x.d) v) w':=by
    intro v E' w' k1 k2 k3 k4 k5
    refine ih _ _ _ E' (by simpa using hsz) ?_ ?_ (Nt hI hlab hdst hx (by omega) hun t4 k1 k2 k3 k4 k5)
    ·
      have hcount:∀(l:List Nat),l.Nodup→i∈l→(l.filter fun k=>!listed.getD k false).length=(l.filter fun k=>!(listed.setIfInBounds i true).getD k false).length+1:=by
       intro l
       induction l with
       |nil=>intro _ h;cases h
       |cons k l ihl=>
        intro hnd hm
        obtain⟨hk1,hk2⟩:=Un.1 hnd
        by_cases hki:i=k
        ·subst hki
         have hsame:(l.filter fun k=>!listed.getD k false)=(l.filter fun k=>!(listed.setIfInBounds i true).getD k false):=by
          apply List.filter_congr
          intro z hz
          rw[bX (by omega),if_neg (fun e=>hk1 (by rw[e];exact hz))]
         rw[Uj (by simp only[Ue];exact hun),Uk (by rw[bX (by omega),if_pos rfl];simp),hsame,TY]
        ·have hml:i∈l:=by rcases Tq.1 hm with e|e;exact absurd e hki;exact e
         have:=ihl hk2 hml
         have hgk:(listed.setIfInBounds i true).getD k false=listed.getD k false:=by rw[bX (by omega),if_neg hki]
         cases hgd:listed.getD k false with
         |true=>rw[Uk (by simp only[hgd];simp),Uk (by simp only[hgk,hgd];simp)];exact this
         |false=>rw[Uj (by simp only[hgd];simp),Uj (by simp only[hgk,hgd];simp),TY,TY,this]
      have:=hcount (TU ops.size) List.nodup_range (by simpa using hio)
      omega
    ·intro j oj hj hdj e he hb
     rw[bX (by omega)]
     split
     ·rfl
     ·rw[bX (by omega)] at hdj
      split at hdj
      ·rename_i hij;subst hij;rw[ho] at hj;cases hj;exact hd e he hb
      ·exact hcl j oj hj hdj e he hb
   have hrun:∀needs,(∀y t,(y,t)∈needs→cvT E w t (a.eval y))→AWN P o needs x.nob x.out x.nw→o.wp P a w (wpAny P .any ops Q fuel (listed.setIfInBounds i true)) Q:=by
    intro needs hne hawn
    refine oV (fun _ _ _ h=>h.elim) (Oper.wp_mono ?_ (hawn cx E a w hI.ok hne hnob (fun l ob hm=>⟨hfresh l ob hm,AL hlab i x l ob hx hm⟩)))
    rintro a' w' ⟨v,E',rfl,k1,k2,k3,k4,k5⟩
    rw[t3]
    exact hnext v E' w' k1 k2 k3 k4 k5
   have hguard:∀j dj (b:Bool),(ops[j]?).bind (·.dst)=some dj→dj<N→cvT E w (tB b) (a.eval (.tmp dj))→yielded ops a.tmps j=some b:=by
    intro j dj b hj hdj hcv
    have hb:a.tmps.getD dj undef= .bool b:=by simpa [cvT,cvV,cvC,rdD,Act.eval] using hcv
    have hs:dj<a.tmps.size:=by rw[hI.size];exact hdj
    have h2:a.tmps[dj]?=some (.bool b):=by
     rw[TA hs];simpa [Array.getD,hs] using hb
    unfold yielded
    cases ho':ops[j]? with
    |none=>simp[ho'] at hj
    |some o'=>simp[ho'] at hj;simp[hj,h2]
   unfold wpOp
   simp only[ho]
   rcases t5 with⟨hg,hawn⟩|⟨j,dj,b,ys,hg,hj,hdj,hnd,hawn⟩|⟨j,dj,b,t,hg,hj,hdj,hnd,hno,hout,hnw⟩
   ·rw[if_pos (by simp[Region.wanted,hg])]
    exact .inl (hrun _ hneeds hawn)
   ·have hy:=hguard j dj b hj hdj (hneeds (.tmp dj) (tB b) (by rw[hnd];simp))
    rw[if_pos (by simp[Region.wanted,hg,hy])]
    exact .inl (hrun ys (fun y t hm=>hneeds y t (by rw[hnd];exact .tail _ hm)) hawn)
   ·have hy:=BZ (N:=N) (ops:=ops) (hneeds (.tmp dj) t (by rw[hnd];simp)) (by rw[hI.size];exact hdj) hj hno
    rw[if_neg (by simp[Region.wanted,hg,hy]),t3]
    exact hnext undef E w hI.ok (Ext.refl E w) (by rw[hout];exact⟨#[],rfl,trivial⟩) (by rw[hnw];simp) (fun _ _ h=>.inl h)
end
theorem fj (n i:Nat):(TZ n false).getD i false=false:=by
 by_cases h:i<n<;>simp[h]
theorem w7 {N:Nat} {cx:Cx} {E:Env} {st:St} {a:Act} {w:World} (hR:Rel N cx E st a w):Rel N cx E st a {w with drawn:=w.drawn+1}:=by
 have hk:iq E w E {w with drawn:=w.drawn+1}:=⟨fun _ _ h=>h,fun _ _ h=>h,fun _ _ _=>rfl,fun _ _ h=>⟨h,rfl⟩,fun _ h=>⟨h,.of_eq rfl⟩,rfl⟩
 exact⟨⟨hR.ok.fb,hR.ok.gf,hR.ok.gn,hR.ok.rb,hR.ok.inj,hR.ok.os,hR.ok.tape,hR.ok.output,hR.ok.size,hR.ok.block,hR.ok.pin,hR.ok.ff,fun b h h'=>(hR.ok.gc b h h').of_eq rfl,hR.ok.sf.grow rfl rfl (fun _ h=>.inl h) (fun o b c h=>.inl ⟨o,c,h⟩) (Tt _) (fun _ _=>rfl)⟩,hR.dom,fun l ob h=>fg hk (fun _ _ _=>rfl) (fun _ _ _ h=>h) (hR.obs l ob h),fun k=>ie hk (hR.sl k),hR.dfr,hR.size,hR.td⟩
def NY (n:Nat):List (Nat×Ob)→Bool
 |[]=>true
 |(l,_)::r=>nlt l n&&NY n r
theorem Ke {n:Nat}:∀{ob:List (Nat×Ob)} {l:Nat} {x:Ob},NY n ob=true→go ob l=some x→l<n
 |(k,v)::r,l,x,h,hg=>by
  simp only[NY,hV] at h
  by_cases hk:k=l
  ·subst hk;exact cK h.1
  ·rw[bA _ _ hk] at hg;exact Ke h.2 hg
theorem Mu {P:Program} {N id:Nat} {l:List Oper} {st:St} {AQ:Exit→St→Prop} (hm:P.follows .mixedOrders=true:=by exact Try.follows) (hol:NY st.nx st.ob=true:=by exact rfl)
 (h:DR P N l.toArray l [] st (fun is s=>Ar l.toArray is st.nx=true∧AQ .normal s)):AWC P N (.region id l.toArray true) st AQ:=by
 intro cx E a w hR
 obtain⟨is,st',n1,n2,n3,n4,n5,n6,n7⟩:=Jz (base:=st) h (fun _=>rfl) rfl rfl
 simp only[List.nil_append] at n2 n3 n4 n5 n6
 simp only[Ar,hV] at n6
 obtain⟨⟨c1,c2⟩,c3⟩:=n6
 have hlen:is.length=l.toArray.size:=by simpa using n1
 have hall:∀(i:Nat) (x:Inf) (o:Oper),is[i]?=some x→l.toArray[i]?=some o→(∀e∈o.after,Region.binds .any e=true→e.on<i)∧
  (∀k∈gv x.needs,∀j,qa is k=some j→if nlt j i then anc l.toArray is.length i j=true else(i=j∨anc l.toArray is.length j i=true))∧
  (∀p∈x.nob,p.1<st.nx∨∃j,JX is p.1=some j∧anc l.toArray is.length i j=true):=by
  intro i x o hx ho
  have hil:i<is.length:=(Tm.1 hx).1
  have:=TX.1 c3 i (by simpa using hil)
  simp only[hx,ho,hV,TX] at this
  obtain⟨⟨k1,k2⟩,k3⟩:=this
  refine⟨fun e he hb=>?_,fun k hk j hj=>?_,fun p hp=>?_⟩
  ·have:=k1 e (by simpa using he);simp only[hb,Bool.not_true,Bool.false_or] at this;exact cK this
  ·have:=k2 k hk
   simp only[hj] at this
   split
   ·rename_i hji;simpa [hji] using this
   ·rename_i hji
    simp only[hji,Bool.false_eq_true,if_false,T8] at this
    rcases this with h|h
    ·exact .inl (To h)
    ·exact .inr h
  ·have:=k3 p hp
   simp only[T8] at this
   rcases this with h|h
   ·exact .inl (cK h)
   ·cases hmk:JX is p.1 with
    |none=>simp[hmk] at h
    |some j=>simp only[hmk] at h;exact .inr ⟨j,rfl,h⟩
 have hop:∀i x,is[i]?=some x→∃o,l.toArray[i]?=some o:=fun i x hx=>⟨_,TA (by have:=(Tm.1 hx).1;omega)⟩
 have hix:∀(i:Nat) (o:Oper),l.toArray[i]?=some o→∃x,is[i]?=some x:=fun i o ho=>⟨_,v0 (by
  have:i<l.toArray.size:=by
   rcases T9 i l.toArray.size with h|h
   ·exact h
   ·rw[Ub h] at ho;cases ho
  omega)⟩
 refine wp_region_any hm ?_
 have hR':=w7 hR
 refine Jd (P:=P) (N:=N) (cx:=cx) (base:=st) (is:=is) hlen n3 c2 ?_ ?_ ?_ ?_ ?_ ?_ _ _ _ _ E (by simp) ?_ ?_ ?_
 ·intro i ob h;exact Ke hol h
 ·intro i o ho;obtain⟨x,hx⟩:=hix i o ho;exact(hall i x o hx ho).1
 ·intro i x hx;obtain⟨o,ho⟩:=hop i x hx;exact(hall i x o hx ho).2.1
 ·intro i x hx;obtain⟨o,ho⟩:=hop i x hx;exact(hall i x o hx ho).2.2
 ·intro i o x ho hx;exact n2 i o x (by simpa using ho) hx
 ·intro listed a' w' E' hdone hI
  refine⟨E',st',⟨hI.ok,fun l' x' hl=>?_,fun l' ob hl=>?_,fun k=>?_,hI.dfr,hI.size,fun l' b' h'=>Uc (hI.td l' b' h') (iD n3).1⟩,n7⟩
  ·have hr:=iD n3
   rcases hI.dom l' x' hl with h|⟨j,y,ob,_,h2,h3⟩
   ·omega
   ·have:=hr.2 j y l' ob h2 h3;omega
  ·rw[n5] at hl
   rcases JJ _ _ _ hl with⟨j,x',hj,hx'⟩|h
   ·exact hI.new j x' l' ob (hdone j (by have:=(Tm.1 hj).1;omega)) hj hx'
   ·exact hI.obs l' ob h
  ·rw[n4 k]
   cases hw:qa is k with
   |none=>
    have hno:∀z∈is,z.d≠k:=by
     intro z hz e
     have:=Uo.1 hw z hz
     rw[e] at this;simp at this
    rw[uB _ _ hno]
    exact hI.old k fun j y _ hy=>hno y (Tn hy)
   |some j=>
    obtain⟨hjl,hjp,_⟩:=Um.1 hw
    have hjd:is[j].d=k:=To hjp
    have:=hI.out j is[j] (hdone j (by omega)) (v0 hjl)
    have h9:=rN (base:=st) is j is[j] (v0 hjl) (fun j' y hy he=>oc c2 j' j y is[j] hy (v0 hjl) he)
    rw[hjd] at h9 this
    rw[h9];exact this
 ·rw[List.filter_eq_self.2]
  ·simp
  ·intro i hi;rw[fj];rfl
 ·intro i o ho hd;rw[fj] at hd;cases hd
 ·refine⟨hR'.ok,fun l' x' hl=>.inl (hR'.dom l' x' hl),hR'.obs,(fun j y l' ob hd=>by rw[fj] at hd;cases hd),(fun j y hd=>by rw[fj] at hd;cases hd),fun k _=>hR'.sl k,hR'.dfr,hR'.size,hR'.td⟩
end Go.AM
