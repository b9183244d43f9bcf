/- A part. -/
import Derived.Test.YtmginjngmidkbaaGreatE1
import Derived.Laws.StructEq
import Derived.Laws.BytesString
set_option linter.unusedVariables false
set_option linter.unusedSimpArgs false
open Nat renaming eq_of_beq_eq_true->aad,beq->d0,lt_of_lt_of_le->aau,zero_add->aaj,le_refl->aah,lt_or_ge->aao,le_of_ble_eq_true->aaO,min_eq_left->aaF,le_trans->aba,zero_le->aas,lt_trichotomy->abr,ble->aaz,add_zero->aaT
open List renaming getElem?_eq_some_iff->aaa,getElem?_eq_getElem->v0,mem_of_getElem?->aab,all_eq_true->aag,pairwise_iff_getElem->aaG,mem_cons->aae,length_cons->aai,mem_append->aac,range->f4,filter_cons_of_pos->aaM,filter_cons_of_neg->aaN,take_succ_cons->aaI,getElem?_append_right->aan,cons_append->aaE,getElem?_append_left->aal,length_map->aay,getElem?_take->aat,map_cons->aaB,all_cons->aaK,getD_eq_getElem?_getD->abl,map_append->abb,eq_nil_of_length_eq_zero->aaL,drop_drop->abc,mem_map->aa7,mem_of_mem_take->aaA,getElem?_of_mem->aap,length_append->aav,length_eq_zero_iff->abw,nodup_append->abq,findIdx?_eq_some_iff_getElem->aaW,any_eq_true->aaD,map_nil->abd,mem_cons_of_mem->abx,flatten_append->abe,exists_mem_of_ne_nil->aby,findIdx?_eq_none_iff->aa0,length_take->abf,map_toArray->abn,nodup_cons->aaY,filter_eq_nil_iff->abz,map_take->abo,drop_succ_cons->abH,getElem?_drop->aaQ,mapM_toArray->abt,filter_congr->abB,any_eq_false->abk,nodup_range->abC,mem_filter->abg,nil_append->aa8,take_zero->abD,drop_zero->abu,mem_range->abi,map_drop->abv,any_cons->abE
open Bool renaming and_eq_true->hV,false_ne_true->aa9,or_eq_true->aam,eq_false_iff->abh,not_eq_true'->aax,or_eq_false_iff->aaq,false_or->aaJ,not_true->abj,false_eq_true->abA
open Array renaming getElem?_eq_getElem->aar,replicate->aak,getElem?_eq_none->aaw,getD_eq_getD_getElem?->aaC,getElem?_append_left->abp,setIfInBounds_eq_of_size_le->abG,ext'->abm,toArray_toList->aaV
namespace Go.AM
open Go.RowKit
variable {P:Program} {t t' ty:TypeId} {k n b e sz by_ nx N nx' j l i p q:Nat} {x y:Go.AM.Ob} {r:Int} {f:FuncId} {s st st2:Go.AM.St} {ss:List Go.AM.Sh} {E E':Go.AM.Env} {w w':World} {u:Value} {cs:List Go.AM.C} {α:Type} {els:Go.AM.Lad} {ys nw ob' nob:Go.AM.Laa} {g gy g':Bool} {sl sl':Go.AM.Lab} {a:Act} {res:List Go.AM.RV} {rs:List ResultVar} {args:List Operand} {ps:String} {af:Array Edge} {gd:Option (Nat×Bool)} {tys:Array TypeId} {ts ts':List Go.AM.T} {eqs:Go.AM.Lac} {out out':Go.AM.T} {listed:Array Bool}
def toV:D->Value
 | .i k n=>.int k n
 | .b b=>.bool b
 | .str s=>.string s
 | .l _=>.slice none 0 0
 | .k _ _ _=>.slice none 0 0
def Xg:D->D->Bool
 | .i _ a,.i _ b=>eqB a b
 | .b a,.b b=>a==b
 | .str a,.str b=>strB a b
 |_,_=>false
def va:List D->List D->Bool
 |x::xs,y::ys=>Xg x y&&va xs ys
 |_,_=>true
def shB:List Sh->List D->Bool
 |[],[]=>true
 | .i k::ss,.i k' _::xs=>decide (k=k')&&shB ss xs
 | .b::ss,.b _::xs=>shB ss xs
 | .str::ss,.str _::xs=>shB ss xs
 |_,_=>false
theorem rV:∀{ss:List Sh} {xs:List D},shB ss xs=true->xs.length=ss.length
 |[],[],_=>rfl
 | .i k::ss,.i k' _::xs,h=>by simp[shB] at h;simp[rV h.2]
 | .b::ss,.b _::xs,h=>by simp[shB] at h;simp[rV h]
 | .str::ss,.str _::xs,h=>by simp[shB] at h;simp[rV h]
 |[],_::_,h=>by simp[shB] at h
 | .i _::_,[],h=>by simp[shB] at h
 | .i _::_,.b _::_,h=>by simp[shB] at h
 | .i _::_,.str _::_,h=>by simp[shB] at h
 | .i _::_,.l _::_,h=>by simp[shB] at h
 | .i _::_,.k _ _ _::_,h=>by simp[shB] at h
 | .b::_,[],h=>by simp[shB] at h
 | .b::_,.i _ _::_,h=>by simp[shB] at h
 | .b::_,.str _::_,h=>by simp[shB] at h
 | .b::_,.l _::_,h=>by simp[shB] at h
 | .b::_,.k _ _ _::_,h=>by simp[shB] at h
 | .str::_,[],h=>by simp[shB] at h
 | .str::_,.i _ _::_,h=>by simp[shB] at h
 | .str::_,.b _::_,h=>by simp[shB] at h
 | .str::_,.l _::_,h=>by simp[shB] at h
 | .str::_,.k _ _ _::_,h=>by simp[shB] at h
 | .l _::_,[],h=>by simp[shB] at h
 | .l _::_,_::_,h=>by simp[shB] at h
theorem wL:∀{s1 s2:List Sh} {xs:List D},shB (s1++s2) xs=true->shB s1 (xs.take s1.length)=true/\shB s2 (xs.drop s1.length)=true
 |[],s2,xs,h=>by simpa [shB] using h
 | .i k::s1,s2,.i k' n::xs,h=>by
  simp only[aaE,shB,hV] at h
  obtain⟨h1,h2⟩:=wL h.2
  exact⟨by simp only[aai,aaI,shB,hV];exact⟨h.1,h1⟩,by simpa using h2⟩
 | .b::s1,s2,.b n::xs,h=>by
  simp only[aaE,shB] at h
  obtain⟨h1,h2⟩:=wL h
  exact⟨by simp only[aai,aaI,shB];exact h1,by simpa using h2⟩
 | .str::s1,s2,.str n::xs,h=>by
  simp only[aaE,shB] at h
  obtain⟨h1,h2⟩:=wL h
  exact⟨by simp only[aai,aaI,shB];exact h1,by simpa using h2⟩
 | .i _::_,_,[],h=>by simp[shB] at h
 | .i _::_,_,.b _::_,h=>by simp[shB] at h
 | .i _::_,_,.str _::_,h=>by simp[shB] at h
 | .i _::_,_,.l _::_,h=>by simp[shB] at h
 | .i _::_,_,.k _ _ _::_,h=>by simp[shB] at h
 | .b::_,_,[],h=>by simp[shB] at h
 | .b::_,_,.i _ _::_,h=>by simp[shB] at h
 | .b::_,_,.str _::_,h=>by simp[shB] at h
 | .b::_,_,.l _::_,h=>by simp[shB] at h
 | .b::_,_,.k _ _ _::_,h=>by simp[shB] at h
 | .str::_,_,[],h=>by simp[shB] at h
 | .str::_,_,.i _ _::_,h=>by simp[shB] at h
 | .str::_,_,.b _::_,h=>by simp[shB] at h
 | .str::_,_,.l _::_,h=>by simp[shB] at h
 | .str::_,_,.k _ _ _::_,h=>by simp[shB] at h
 | .l _::_,_,[],h=>by simp[shB] at h
 | .l _::_,_,_::_,h=>by simp[shB] at h
theorem EG:∀(n:Nat) (xs ys:List D),xs.length=ys.length->va xs ys=(va (xs.take n) (ys.take n)&&va (xs.drop n) (ys.drop n))
 |0,xs,ys,_=>by simp[va]
 |n+1,[],[],_=>by simp[va]
 |n+1,x::xs,y::ys,h=>by
  simp only[aaI,abH,va]
  rw[EG n xs ys (by simpa using h),Bool.and_assoc]
 |n+1,[],_::_,h=>by simp at h
 |n+1,_::_,[],h=>by simp at h
def rh (xs:List D):Array Value:=(xs.map toV).toArray
def EqS (P:Program) (t:TypeId) (s:Sh):Prop:=∀(d:Nat) (w:World) (x y:D),shB [s] [x]=true->shB [s] [y]=true->(Op.equalIn (d+1) t (toV x) (toV y)).run P w= .ok (Xg x y) w
def EqA (P:Program) (k:Nat) (t:TypeId) (ss:List Sh):Prop:=∀(d:Nat) (w:World) (xs ys:List D),k<=d->shB ss xs=true->shB ss ys=true->(Op.equalIn d t (.agg (rh xs)) (.agg (rh ys))).run P w= .ok (va xs ys) w
def EqF (P:Program) (k:Nat) (o:Nat) (fs:List Field) (ss:List Sh):Prop:=∀(d:Nat) (w:World) (X Y:List D),k<=d->shB ss (X.drop o)=true->shB ss (Y.drop o)=true->(Op.eqFields d (rh X) (rh Y) fs).run P w= .ok (va (X.drop o) (Y.drop o)) w
theorem eH {k:IntKind} (h:P.underlying t=some (.int k)):EqS P t (.i k):=by
 intro d w x y hx hy
 cases x<;>simp[shB] at hx
 cases y<;>simp[shB] at hy
 subst hx;subst hy
 rw[toV,toV,run_equalIn_int w d t _ k _ _ h]
 simp[Xg,eqB,OR]
theorem pZ {o:Nat}:EqF P k o [] []:=by
 intro d w X Y hd hx hy
 have h1:=rV hx
 have h2:=rV hy
 rw[abw.1 h1,abw.1 h2]
 simp[Op.eqFields,va]
theorem Wj {X:List D} {o:Nat} {x:D} {r:List D} (h:X.drop o=x::r):(rh X)[o]?=some (toV x):=by
 have:X[o]?=some x:=by
  have:=aaQ (xs:=X) (i:=o) (j:=0)
  rw[h] at this
  simpa using this.symm
 simp[rh,this]
theorem iI  {o:Nat} {f:Field} {fs:List Field} {s:Sh}  (ho:f.offset=o) (hn:f.name≠ "_") (hs:jN P f.type) (he:EqS P f.type s) (h:EqF P (k+1) (o+1) fs ss):EqF P (k+1) o (f::fs) (s::ss):=by
 intro d w X Y hd hx hy
 obtain⟨d,rfl⟩:∃d',d=d'+1:=⟨d-1,by omega⟩
 have l1:=rV hx
 have l2:=rV hy
 cases hX:X.drop o with
 |nil=>rw[hX] at l1;simp at l1
 |cons x X'=>
  cases hY:Y.drop o with
  |nil=>rw[hY] at l2;simp at l2
  |cons y Y'=>
   rw[hX] at hx;rw[hY] at hy
   have a1:=wL (s1:=[s]) (s2:=ss) hx
   have a2:=wL (s1:=[s]) (s2:=ss) hy
   simp only[aai,List.length_nil,aaj,aaI,abD,abH,abu] at a1 a2
   have e1:X.drop (o+1)=X':=by rw[<-abc,hX];rfl
   have e2:Y.drop (o+1)=Y':=by rw[<-abc,hY];rfl
   have ih:=h (d+1) w X Y hd (by rw[e1];exact a1.2) (by rw[e2];exact a2.2)
   simp only[Op.eqFields,hn,ne_eq,not_false_eq_true,if_true,Sem.run_bind,part,hs.h,Result.andThen_ok,ho,Wj hX,Wj hY,Sem.run_pure,abA,if_false,he d w x y a1.1 a2.1]
   rw[va,<-e1,<-e2]
   cases hq:Xg x y
   .simp
   simpa using ih
theorem YB {X:List D} {o:Nat}:(rh X).extract o (o+n)=rh ((X.drop o).take n):=by
 apply abm
 simp[rh,abv,abo,List.extract_eq_take_drop]
theorem T3  {k' o:Nat} {f:Field} {fs:List Field} {s1:List Sh} (ho:f.offset=o) (hn:f.name≠ "_") (hs:hP P f.type n) (hl:s1.length=n) (hk:k'<=k) (he:EqA P k' f.type s1) (h:EqF P k (o+n) fs ss):EqF P k o (f::fs) (s1++ss):=by
 intro d w X Y hd hx hy
 have l1:=rV hx
 have l2:=rV hy
 have a1:=wL hx
 have a2:=wL hy
 rw[hl] at a1 a2
 have ih:=h d w X Y hd (by rw[<-abc];exact a1.2) (by rw[<-abc];exact a2.2)
 obtain⟨i,hi,hin⟩:=hs.n
 simp only[Op.eqFields,hn,ne_eq,not_false_eq_true,if_true,Sem.run_bind,part,hs.h,Result.andThen_ok,ho,fm hi,hin,YB,Sem.run_pure,he d w _ _ oaa a1.1 a2.1]
 rw[EG n (X.drop o) (Y.drop o) oaa,abc,abc]
 cases hq:va ((X.drop o).take n) ((Y.drop o).take n)
 .simp
 simpa using ih
theorem js {fs:Array Field} (hu:P.underlying t=some (.struct fs)) (hp:P.stoodInHeld t=false) (h:EqF P k 0 fs.toList ss):EqA P (k+1) t ss:=by
 intro d w xs ys hd hx hy
 obtain⟨d,rfl⟩:∃d',d=d'+1:=⟨d-1,by omega⟩
 have hf:P.fieldsOf t=fs:=by simp[Program.fieldsOf,hu]
 rw[run_equalIn_struct w d t _ _ (by rw[hf];exact hu) hp,hf]
 have:=h d w xs ys oaa (by simpa using hx) (by simpa using hy)
 simpa using this
class zW (P:Program) (t:TypeId) (ss:outParam (List Sh)):Prop where
 h:∃k,k<=10000/\EqA P k t ss
 g:P.eqGuardType P.depth t=false
def Qh:C->Option D
 | .d _ (.i k n)=>some (.i k n)
 | .d _ (.b b)=>some (.b b)
 | .d _ (.str s)=>some (.str s)
 |_=>none
def qZ:List C->Option (List D)
 |[]=>some []
 |c::cs=>match Qh c,qZ cs with
  |some x,some xs=>some (x::xs)
  |_,_=>none
theorem VK {c:C} {x:D} (h:Qh c=some x) (hc:cvC E w c u):u=toV x:=by
 cases c with
 |d g y=>cases y<;>simp[Qh] at h<;>subst h<;>simpa [cvC,rdD,toV] using hc
 |_=>simp[Qh] at h
theorem vE {E:Env} {w:World}:∀{cs:List C} {xs:List D} {us:Lae},qZ cs=some xs->CV E w cs us->us=xs.map toV
 |[],xs,[],h,_=>by simp[qZ] at h;subst h;rfl
 |[],_,_::_,_,hc=>hc.elim
 |c::cs,xs,[],h,hc=>hc.elim
 |c::cs,xs,u::us,h,hc=>by
  simp only[qZ] at h
  split at h
  .rename_i x xs' h1 h2
   simp at h;subst h
   rw[aaB,VK h1 hc.1,vE h2 hc.2]
  cases h
section
variable {P:Program} {N:Nat} {d:Tmp} {ty:TypeId} {ps:String} {af:Array Edge} {gd:Option (Nat×Bool)} {x y z:Operand} {sl:Lab} {ob:Laa} {nx:Nat}
theorem P9 [h:zW P t ss] {as bs:List D} (h1:shB ss as=true) (h2:shB ss bs=true) (w:World) (o:BinOp) (ho:o= .eql\/o= .neq) (x y:Operand):
 ((do eqGuard o t x y (.agg (rh as)) (.agg (rh bs));binOp o t (.agg (rh as)) (.agg (rh bs))):Sem Value).run P w= .ok (.bool (if o= .eql then va as bs else !va as bs)) w:=by
 obtain⟨k,hk,he⟩:=h.h
 have:=he 10000 w as bs hk h1 h2
 rcases ho with rfl|rfl
 .simp[Sem.run_bind,run_eqGuard_agg w _ t x y _ _ h.g,run_eql_struct,this]
 simp[Sem.run_bind,run_eqGuard_agg w _ t x y _ _ h.g,run_neq_struct,this]
theorem n_seq [h:zW P t ss] {ds:List C} {as bs:List D} (ha:qZ cs=some as) (hb:qZ ds=some bs) (h1:shB ss as=true) (h2:shB ss bs=true):
 AWN P ⟨some d,.binOp .eql t x y t',ty,ps,af,gd⟩ [(x,.v (.agg cs)),(y,.v (.agg ds))] [] (tB (va as bs)) []:=
 cM λE ac w hn _=>by
  obtain⟨a1,hu1,hc1⟩:=hn x _ (.head _)
  obtain⟨a2,hu2,hc2⟩:=hn y _ (.tail _ (.head _))
  have e1:a1=rh as:=by apply abm;simpa [rh] using vE ha hc1
  have e2:a2=rh bs:=by apply abm;simpa [rh] using vE hb hc2
  subst e1;subst e2
  refine⟨_,?_,rfl⟩
  have:=P9 (P:=P) (t:=t) h1 h2 w .eql (.inl rfl) x y
  simp only[Sem.run_bind,if_true] at this
  simp only[execOp,hu1,hu2,Sem.run_bind]
  generalize (eqGuard BinOp.eql t x y (Value.agg (rh as)) (Value.agg (rh bs))).run P w=q at*
  cases q with
  |ok a w'=>simp only[Result.andThen_ok] at this ⊢;rw[this];rfl
  |halt a w'=>simp[Result.andThen] at this
theorem n_sne [h:zW P t ss] {ds:List C} {as bs:List D} (ha:qZ cs=some as) (hb:qZ ds=some bs) (h1:shB ss as=true) (h2:shB ss bs=true):
 AWN P ⟨some d,.binOp .neq t x y t',ty,ps,af,gd⟩ [(x,.v (.agg cs)),(y,.v (.agg ds))] [] (tB (!va as bs)) []:=
 cM λE ac w hn _=>by
  obtain⟨a1,hu1,hc1⟩:=hn x _ (.head _)
  obtain⟨a2,hu2,hc2⟩:=hn y _ (.tail _ (.head _))
  have e1:a1=rh as:=by apply abm;simpa [rh] using vE ha hc1
  have e2:a2=rh bs:=by apply abm;simpa [rh] using vE hb hc2
  subst e1;subst e2
  refine⟨_,?_,rfl⟩
  have:=P9 (P:=P) (t:=t) h1 h2 w .neq (.inr rfl) x y
  simp only[Sem.run_bind,reduceCtorEq,if_false] at this
  simp only[execOp,hu1,hu2,Sem.run_bind]
  generalize (eqGuard BinOp.neq t x y (Value.agg (rh as)) (Value.agg (rh bs))).run P w=q at*
  cases q with
  |ok a w'=>simp only[Result.andThen_ok] at this ⊢;rw[this];rfl
  |halt a w'=>simp[Result.andThen] at this
theorem qe {ds:List C} {as bs:List D} [zW P t ss] (hx:opT sl x= .v (.agg cs)) (hy:opT sl y= .v (.agg ds)) (hN:nlt d N=true) (ha:qZ cs=some as) (hb:qZ ds=some bs) (h1:shB ss as=true) (h2:shB ss bs=true):
 NS0 P N ⟨some d,.binOp .eql t x y t',ty,ps,af,gd⟩ sl ob nx d (tB (va as bs)) ⟨d,[(x,.v (.agg cs)),(y,.v (.agg ds))],[],tB (va as bs),[]⟩:=dT (st:=⟨sl,ob,nx⟩) (n_seq ha hb h1 h2) rfl hN ⟨hx,hy,trivial⟩ trivial rfl
theorem qn {ds:List C} {as bs:List D} [zW P t ss] (hx:opT sl x= .v (.agg cs)) (hy:opT sl y= .v (.agg ds)) (hN:nlt d N=true) (ha:qZ cs=some as) (hb:qZ ds=some bs) (h1:shB ss as=true) (h2:shB ss bs=true):
 NS0 P N ⟨some d,.binOp .neq t x y t',ty,ps,af,gd⟩ sl ob nx d (tB (!va as bs)) ⟨d,[(x,.v (.agg cs)),(y,.v (.agg ds))],[],tB (!va as bs),[]⟩:=dT (st:=⟨sl,ob,nx⟩) (n_sne ha hb h1 h2) rfl hN ⟨hx,hy,trivial⟩ trivial rfl
end
def cpL (els ys:List α):List α:=ys.take els.length++els.drop ys.length
theorem OU {β:Type} (f:α->β) (els ys:List α):cpL (els.map f) (ys.map f)=(cpL els ys).map f:=by simp[cpL,abo,abv]
@[simp] theorem cpL_len (els ys:List α):(cpL els ys).length=els.length:=by simp[cpL];omega
section
variable {P:Program} {N:Nat} {d:Tmp} {ty:TypeId} {ps:String} {af:Array Edge} {gd:Option (Nat×Bool)} {x y z:Operand} {st:St}
theorem zH {us:Lae} (hn:us.length=n) (h:∀(j:Nat) (u:Value),us[j]?=some u->w.cell? ⟨b,k+j,none⟩=some u):
 (loadCells ⟨b,k,none⟩ n).run P w= .ok us.toArray w:=by
 subst hn
 have:=lu (P:=P) (b:=b) (k:=k) (w:=w) us 0 #[] (λj u hj=>by simp_all)
 simpa [loadCells] using this
theorem U2 {o:Nat} {ys:Lad} {c:C} [ht:eB P t e sz by_] (hd:d<N)
 (hx:opT st.sl x= .v (.c (.w o n))) (hy:opT st.sl y= .v (.c c)) (ho:go st.ob o=some (.row e sz els g true)) (hs:Src st.ob c ys gy)
 (hn:els.length=n) (hsz:∀e∈ys,e.length=sz):
 AWO P N ⟨some d,.call ⟨.builtin .copy,#[x,y],#[t,t]⟩,ty,ps,af,gd⟩ st ⟨(d,.any)::st.sl,(o,.row e sz (cpL els ys) (g&&gy) true)::st.ob,st.nx⟩:=by
 intro cx E a w hR
 have h1:=hR.op x;rw[hx] at h1
 have h2:=hR.op y;rw[hy] at h2
 obtain⟨b,cc,hr,hu⟩:=h1
 obtain⟨b',c',arr,hr',hh,ha,hlc,hmx,hes,hrd,hFm,_⟩:=hR.obs o _ ho
 rw[hr] at hr';cases hr'
 have hF:=hFm rfl
 obtain⟨A,k,hv,hyk,hA⟩:=Ot hR hs h2
 obtain⟨ii,zz,i1,i2,i3,i4,i5⟩:=ht.i
 obtain⟨m,hm⟩:∃m,m=Nat.min ys.length n:=⟨_,rfl⟩
 have hm1:m<=ys.length:=by rw[hm];exact Nat.min_le_left _ _
 have hm2:m<=n:=by rw[hm];exact Nat.min_le_right _ _
 have hcp:cpL els ys=ys.take m++els.drop m:=by
  unfold cpL
  rw[hn]
  rcases Nat.le_total ys.length n with h|h
  .grind
  simp_all
 have hsrc:∃news:Lae,news.length=m*sz/\(∀u∈news,u.oneCell'=true)/\(∀(j:Nat) (xd:D),(ys.take m).flatten[j]?=some xd->∃u,news[j]?=some u/\rdD w (E.H gy) xd u)/\
  (Builtin.firstCells sz m (.slice A ys.length k)).run P w= .ok news.toArray w:=by
  rcases hA with h0|⟨b2,off,rfl,hrd2⟩
  .subst h0
   have hm0:m=0:=by simpa using hm1
   refine⟨[],by simp[hm0],by simp,by simp,?_⟩
   cases A with
   |none=>rfl
   |some ad=>simp[Builtin.firstCells,hm0,loadCells,loadCellsFrom]
  obtain⟨us,q1,q2,q3,q4⟩:=vw (fF.1 (pS m hrd2))
  have ql:us.length=m*sz:=by
   rw[q1,gO (λe he=>hsz e (aaA he)),abf,aaF hm1]
  refine⟨us,ql,q3,q4,?_⟩
  simp only[Builtin.firstCells]
  exact zH ql (λj u hj=>by have:=q2 j u hj;rwa [vS] at this)
 obtain⟨news,n1,n2,n3,n4⟩:=hsrc
 have hmul:m*sz<=arr.size:=by rw[ha];exact Nat.mul_le_mul_right _ oaa
 have hst:=run_storeCells_at (P:=P) b 0 e news 0 arr w hh (by simp;omega) n2
 have hrun:(Builtin.copy_ #[t,t] ty #[.slice (some ⟨b,0,none⟩) n cc,.slice A ys.length k]).run P w= .ok (goInt m) (w.setRow b (news++arr.toList.drop (m*sz)).toArray):=by
  simp only[aaj,n1] at hst
  simp only[Builtin.copy_]
  simp[underlying,ht.u,Builtin.lenOf,fm i1,i2]
  rw[<-hm,n4]
  simp[hst]
 unfold Oper.wp
 simp only[execOp,resolve,invoke,builtin,Sem.run_bind,Sem.run_pure,Result.andThen_ok,abn,aaB,abd,hu,hv,hrun,Oper.upon_value]
 have hk:=ku (cs:=(news++arr.toList.drop (m*sz)).toArray) (w:=w) hR.ok hr hF
 have hall:∀e'∈cpL els ys,e'.length=sz:=λe' he'=>by
  grind
 have hrel:=wx (ob':=.row e sz (cpL els ys) (g&&gy) true) (cs:=(news++arr.toList.drop (m*sz)).toArray) hR hr hF ⟨b,cc,_,hr,jm _ hh,by simp_all,by simp_all,hmx,hall,by
  rw[fF]
  refine oT λj xd hj=>?_
  rw[aaj,fa (jm _ hh),List.getElem?_toArray]
  rw[hcp,abe] at hj
  have hfl:(ys.take m).flatten.length=m*sz:=by rw[gO (λe he=>hsz e (aaA he)),abf,aaF hm1]
  by_cases hjn:j<m*sz
  .rw[aal oaa] at hj
   obtain⟨u,u1,u2⟩:=n3 _ _ hj
   exact⟨u,by grind,cW (hk.heap _) (hk.H _) _ _ (pF hR.ok u2 (by simp))⟩
  rw[aan oaa,hfl] at hj
  have hjd:els.flatten[j]?=some xd:=by
   have e1:els.flatten=(els.take m).flatten++(els.drop m).flatten:=by rw[<-abe,List.take_append_drop]
   have e2:(els.take m).flatten.length=m*sz:=by rw[gO (λe he=>hes e (aaA he)),abf,aaF oaa]
   rw[e1,aan oaa,e2];exact hj
  obtain⟨u,u1,u2⟩:=nO (fF.1 hrd) hjd
  rw[aaj,fa hh] at u1
  refine⟨u,?_,cW (hk.heap _) (hk.H _) _ _ (pF hR.ok u2 (by simp_all))⟩
  rw[aan oaa,n1,aaQ,show m*sz+(j-m*sz)=j from by omega]
  simp_all,λ_=>hF,λh=>by cases h⟩
 exact⟨E,hrel.putAny hd _⟩
theorem cpT {enc:α->List D} {ob:Laa} {o:Nat} {ys zs:List α} {zd:Lad} {gg:Bool} {c:C} [eB P t e sz by_] (hzd:zs.map enc=zd) (henc:∀a,(enc a).length=sz) (hn:ys.length=n) (hs:Src ob c zd gy) (hd:nlt d N=true)
 (hx:opT sl x= .v (.c (.w o n))) (hy:opT sl y= .v (.c c)) (ho:go ob o=some (.row e sz (ys.map enc) g true)) (hg:(g&&gy)=gg):
 AWO P N ⟨some d,.call ⟨.builtin .copy,#[x,y],#[t,t]⟩,ty,ps,af,gd⟩ ⟨sl,ob,nx⟩ ⟨(d,.any)::sl,(o,.row e sz ((cpL ys zs).map enc) gg true)::ob,nx⟩:=by
 subst hzd;subst hg
 have:=U2 (P:=P) (N:=N) (st:=⟨sl,ob,nx⟩) (d:=d) (ty:=ty) (ps:=ps) (af:=af) (gd:=gd) (t:=t) (e:=e) (sz:=sz) (by_:=by_) (dr hd) hx hy ho hs (by simp_all) (JA henc zs)
 rwa [OU] at this
def vd:List D->Bool
 |[]=>true
 | .l _::_=>false
 |_::xs=>vd xs
theorem A3 {w:World} {F F':Nat->Prop}:∀{e:List D} {b k:Nat},vd e=true->rdL w F e b k->rdL w F' e b k
 |[],_,_,_,_=>by simp[rdL]
 | .i k' n::xs,b,k,h,hr=>by
  rw[rdL] at hr ⊢
  exact⟨by obtain⟨u,h1,h2⟩:=hr.1;exact⟨u,h1,by simpa [rdD] using h2⟩,A3 (by simpa [vd] using h) hr.2⟩
 | .b n::xs,b,k,h,hr=>by
  rw[rdL] at hr ⊢
  exact⟨by obtain⟨u,h1,h2⟩:=hr.1;exact⟨u,h1,by simpa [rdD] using h2⟩,A3 (by simpa [vd] using h) hr.2⟩
 | .str n::xs,b,k,h,hr=>by
  rw[rdL] at hr ⊢
  exact⟨by obtain⟨u,h1,h2⟩:=hr.1;exact⟨u,h1,by simpa [rdD] using h2⟩,A3 (by simpa [vd] using h) hr.2⟩
 | .k _ _ _::xs,b,k,h,hr=>by
  rw[rdL] at hr ⊢
  exact⟨by obtain⟨u,h1,h2⟩:=hr.1;exact⟨u,h1,by simpa [rdD] using h2⟩,A3 (by simpa [vd] using h) hr.2⟩
 | .l _::_,_,_,h,_=>by simp[vd] at h
theorem yR {w:World} {F F':Nat->Prop}:∀{es:Lad} {b k:Nat},(∀e∈es,vd e=true)->rdLL w F es b k->rdLL w F' es b k
 |[],_,_,_,_=>by simp[rdLL]
 |e::es,b,k,h,hr=>by
  rw[rdLL] at hr ⊢
  exact⟨A3 (h e (by simp)) hr.1,yR (λx hx=>h x (by simp[hx])) hr.2⟩
theorem gA {enc:α->List D} {ob:Laa} {o t:Nat} {ys:List α} (ho:go ob o=some (.row t sz (ys.map enc) g true):=by exact rfl) (hf:∀a,vd (enc a)=true:=by exact λ_=>rfl):
 dS N ⟨sl,ob,nx⟩ ⟨sl,(o,.row t sz (ys.map enc) true true)::ob,nx⟩:=by
 intro cx E a w hR
 refine⟨E,hR.ok,hR.dom,λl x hl=>?_,hR.sl,hR.dfr,hR.size,hR.td⟩
 by_cases hlo:o=l
 .subst hlo
  rw[cU] at hl;cases hl
  obtain⟨b,c,arr,h1,h2,h3,h4,h5,h6,h7,h8,h9⟩:=hR.obs _ _ ho
  exact⟨b,c,arr,h1,h2,h3,h4,h5,h6,yR (λe he=>by grind) h7,h8,λh=>by cases h⟩
 rw[b7 _ _ hlo] at hl;exact hR.obs l x hl
end
def zY (k:IntKind) (x y:Int):Int:=k.wrap (BitVec.ofInt k.bits x&&& BitVec.ofInt k.bits y).toNat
def bOr (k:IntKind) (x y:Int):Int:=k.wrap (BitVec.ofInt k.bits x|||BitVec.ofInt k.bits y).toNat
def IU (k:IntKind) (x y:Int):Int:=k.wrap (BitVec.ofInt k.bits x^^^BitVec.ofInt k.bits y).toNat
def vV (k:IntKind) (x y:Int):Int:=k.wrap (BitVec.ofInt k.bits x&&& ~~~(BitVec.ofInt k.bits y)).toNat
def md (k:IntKind) (x y:Int):Int:=k.wrap (x*2^(min y.toNat k.bits))
def En (k:IntKind) (x y:Int):Int:=x.fdiv (2^(min y.toNat k.bits))
def Tt (op:BinOp) (k:IntKind) (a b:Int):Option Int:=
 match op with
 | .and=>some (zY k a b)
 | .or=>some (bOr k a b)
 | .xor=>some (IU k a b)
 | .andNot=>some (vV k a b)
 |_=>none
def Yl (op:BinOp) (k:IntKind) (a b:Int):Option Int:=
 match op with
 | .shl=>some (md k a b)
 | .shr=>some (En k a b)
 |_=>none
section
variable {P:Program} {N:Nat} {d:Tmp} {ty:TypeId} {ps:String} {af:Array Edge} {gd:Option (Nat×Bool)} {x y z:Operand} {sl:Lab} {ob:Laa} {nx:Nat}
theorem n_bit {op:BinOp} {k:IntKind} {a b:Int} (h:Tt op k a b=some r):
 AWN P ⟨some d,.binOp op t x y t',ty,ps,af,gd⟩ [(x,.v (.c (.d g (.i k a)))),(y,.v (.c (.d g' (.i k b))))] [] (.v (.c (.d false (.i k r)))) []:=
 cM λE ac w hn _=>by
  have h1:=iY (hn x _ (.head _))
  have h2:=iY (hn y _ (.tail _ (.head _)))
  cases op<;>simp only[Tt,Option.some.injEq,reduceCtorEq] at h<;>subst h<;>
   exact⟨_,by simp[execOp,h1,h2,eqGuard,binOp,Op.intBits];rfl,by simp[cvT,cvV,cvC,rdD,zY,bOr,IU,vV]⟩
theorem n_sh {op:BinOp} {k k':IntKind} {a b:Int} (h0:0<=b) (h:Yl op k a b=some r):
 AWN P ⟨some d,.binOp op t x y t',ty,ps,af,gd⟩ [(x,.v (.c (.d g (.i k a)))),(y,.v (.c (.d g' (.i k' b))))] [] (.v (.c (.d false (.i k r)))) []:=
 cM λE ac w hn _=>by
  have h1:=iY (hn x _ (.head _))
  have h2:=iY (hn y _ (.tail _ (.head _)))
  have h0':¬b<0:=by omega
  cases op<;>simp only[Yl,Option.some.injEq,reduceCtorEq] at h<;>subst h<;>
   exact⟨_,by simp[execOp,h1,h2,eqGuard,binOp,Op.shift,h0'];rfl,by rfl⟩
theorem ib {op:BinOp} {k:IntKind} {a b:Int} (hx:opT sl x= .v (.c (.d g (.i k a)))) (hy:opT sl y= .v (.c (.d g' (.i k b)))) (hN:nlt d N=true) (h:Tt op k a b=some r):
 NS0 P N ⟨some d,.binOp op t x y t',ty,ps,af,gd⟩ sl ob nx d (.v (.c (.d false (.i k r)))) ⟨d,[(x,.v (.c (.d g (.i k a)))),(y,.v (.c (.d g' (.i k b))))],[],.v (.c (.d false (.i k r))),[]⟩:=dT (st:=⟨sl,ob,nx⟩) (n_bit h) rfl hN ⟨hx,hy,trivial⟩ trivial rfl
theorem Fh {op:BinOp} {k k':IntKind} {a b:Int} (h0:leB 0 b=true) (hx:opT sl x= .v (.c (.d g (.i k a)))) (hy:opT sl y= .v (.c (.d g' (.i k' b)))) (hN:nlt d N=true) (h:Yl op k a b=some r):
 NS0 P N ⟨some d,.binOp op t x y t',ty,ps,af,gd⟩ sl ob nx d (.v (.c (.d false (.i k r)))) ⟨d,[(x,.v (.c (.d g (.i k a)))),(y,.v (.c (.d g' (.i k' b))))],[],.v (.c (.d false (.i k r))),[]⟩:=dT (st:=⟨sl,ob,nx⟩) (n_sh (by simp_all) h) rfl hN ⟨hx,hy,trivial⟩ trivial rfl
theorem ishL {op:BinOp} {k k':IntKind} {a:Int} (hx:opT sl x= .v (.c (.d g (.i k a)))) (hy:opT sl y= .v (.c (.d g' (.i k' (b:Int))))) (hN:nlt d N=true) (h:Yl op k a b=some r):
 NS0 P N ⟨some d,.binOp op t x y t',ty,ps,af,gd⟩ sl ob nx d (.v (.c (.d false (.i k r)))) ⟨d,[(x,.v (.c (.d g (.i k a)))),(y,.v (.c (.d g' (.i k' (b:Int)))))],[],.v (.c (.d false (.i k r))),[]⟩:=dT (st:=⟨sl,ob,nx⟩) (n_sh oaa h) rfl hN ⟨hx,hy,trivial⟩ trivial rfl
end
def E0 (b c:Nat) (F:Nat->Prop):Env:={r:=λo=>if o=200 then some (b,c) else none,F:=F,G:=λ_=>False}
def E1 (b c:Nat) (F G:Nat->Prop):Env:={r:=λo=>if o=200 then some (b,c) else none,F:=λx=>F x\/G x,G:=G}
def TV (E:Env) (w:World):List T->Lae->Prop
 |[],[]=>True
 |t::ts,u::us=>cvT E w t u/\TV E w ts us
 |_,_=>False
structure FnW (P:Program) (f:FuncId) (x:Ob) (args:List T) (y:Ob) (res:List RV):Prop where
 enters:∀(vs:Array Value) (w:World),(callFunc f vs).run P w= .ok (.enter f vs) w
 calls:∀(F:Nat->Prop) (w:World) (vals:Array Value) (b c:Nat),(∀b,F b->b<w.heap.size)->b<w.heap.size->TabsIn w->(∀k∈wH,k≠b)->dm (E0 b c F) w 200 x->TV (E0 b c F) w args vals.toList->
  Calls P f vals w λe w'=>∃v G bs,e= .returned v/\IK w w' (λk=>k=b)/\(∀k,G k->w.heap.size<=k/\k<w'.heap.size/\jL w' k)/\An w' G w.heap.size res v bs/\(bs.map (·.1)).Nodup/\dm (E1 b c F G) w' 200 y
def C.free:C->Bool
 | .d _ _| .nil| .any| .fn _=>true
 |_=>false
def Ob.free:Ob->Bool
 | .var _ cs=>cs.all C.free
 | .row _ _ _ _ m=>m
 | .rown .. | .abs .. =>false
theorem TA (hH:∀g b,E.H g b->E'.H g b) (hh:∀g b,E.H g b->w'.heap[b]?=w.heap[b]?):∀{c:C} {u:Value},c.free=true->cvC E w c u->cvC E' w' c u
 | .d g d,u,_,h=>cW (hh g) (hH g) d u h
 | .fn f,u,_,h=>h
 | .nil,u,_,h=>h
 | .any,u,_,_=>trivial
theorem IC {E E':Env} {w w':World} (hH:∀g b,E.H g b->E'.H g b) (hh:∀g b,E.H g b->w'.heap[b]?=w.heap[b]?):∀{cs:List C} {us:Lae},cs.all C.free=true->CV E w cs us->CV E' w' cs us
 |[],[],_,_=>trivial
 |c::cs,u::us,hf,h=>by
  simp only[aaK,hV] at hf
  exact⟨TA hH hh hf.1 h.1,IC hH hh hf.2 h.2⟩
 |[],_::_,_,h=>h.elim
 |_::_,[],_,h=>h.elim
theorem Al {o o':Nat} (hf:x.free=true) (hr:∀b c,E.r o=some (b,c)->E'.r o'=some (b,c)) (hH:∀g b,E.H g b->E'.H g b) (hh:∀g b,E.H g b->w'.heap[b]?=w.heap[b]?)
 (hb:∀b c,E.r o=some (b,c)->w'.heap[b]?=w.heap[b]?) (hF:∀b c,E.r o=some (b,c)->¬E.F b->¬E'.F b) (h:dm E w o x):dm E' w' o' x:=by
 cases x with
 |rown ty sz els g=>exact absurd hf aa9
 |abs l y=>exact absurd hf aa9
 |var ty cs=>
  obtain⟨b,c,arr,h1,h2,h3,h4⟩:=h
  exact⟨b,c,arr,hr b c h1,(hb b c h1).trans h2,IC hH hh hf h3,hF b c h1 h4⟩
 |row ty sz els g m=>
  obtain⟨b,c,arr,h1,h2,h3,h4,h5,h6,h7,h8,h9⟩:=h
  have hm:m=true:=hf
  subst hm
  exact⟨b,c,arr,hr b c h1,(hb b c h1).trans h2,h3,h4,h5,h6,cX (hh g) (hH g) (hb b c h1) _ _ h7,λ_=>hF b c h1 (h8 rfl),λh=>by cases h⟩
def C.loc:C->C
 | .d _ x=>.d false x
 |c=>c
def Ob.loc:Ob->Ob
 | .var ty cs=>.var ty (cs.map C.loc)
 | .row ty sz els _ m=>.row ty sz els false m
 | .rown ty sz els _=>.rown ty sz els false
 | .abs l y=>.abs l y
theorem WY {cx:Cx} (ok:dJ cx E w) {c:C} (h:cvC E w c u):cvC E w c.loc u:=by
 cases c with
 |d g x=>exact pF (g':=false) ok h (by simp)
 |_=>exact h
theorem SS {cx:Cx} {E:Env} {w:World} (ok:dJ cx E w):∀{cs:List C} {us:Lae},CV E w cs us->CV E w (cs.map C.loc) us
 |[],[],_=>trivial
 |c::cs,u::us,h=>⟨WY ok h.1,SS ok h.2⟩
 |[],_::_,h=>h.elim
 |_::_,[],h=>h.elim
theorem Ig {cx:Cx} (ok:dJ cx E w) {o:Nat} (hf:x.free=true) (h:dm E w o x):dm E w o x.loc:=by
 cases x with
 |rown ty sz els g=>exact absurd hf aa9
 |abs l y=>exact absurd hf aa9
 |var ty cs=>
  obtain⟨b,c,arr,h1,h2,h3,h4⟩:=h
  exact⟨b,c,arr,h1,h2,SS ok h3,h4⟩
 |row ty sz els g m=>
  obtain⟨b,c,arr,h1,h2,h3,h4,h5,h6,h7,h8,h9⟩:=h
  have hm:m=true:=hf
  subst hm
  refine⟨b,c,arr,h1,h2,h3,h4,h5,h6,?_,h8,λh=>by cases h⟩
  cases g with
  |false=>exact h7
  |true=>exact cX (λ_ _=>rfl) (λb hb=>ok.gf b hb) rfl _ _ h7
def xB:Nat->List T->Lab
 |_,[]=>[]
 |k,t::ts=>(k,t)::xB (k+1) ts
theorem DE {E:Env} {w:World}:∀{ts:List T} {us:Lae} (k0:Nat),TV E w ts us->us.length=ts.length/\∀k,(k0<=k/\k<k0+ts.length->∃u,us[k-k0]?=some u/\cvT E w (gt (xB k0 ts) k) u)/\(¬(k0<=k/\k<k0+ts.length)->gt (xB k0 ts) k= .any)
 |[],[],k0,_=>⟨rfl,λk=>⟨λh=>by simp at h;omega,λ_=>rfl⟩⟩
 |t::ts,u::us,k0,h=>by
  obtain⟨h1,h2⟩:=DE (k0+1) h.2
  refine⟨by simp[h1],λk=>⟨λhk=>?_,λhk=>?_⟩⟩
  .by_cases e:k0=k
   .subst e;exact⟨u,by simp,by rw[xB,d4];exact h.1⟩
   obtain⟨v,k1,k2⟩:=(h2 k).1 (by simp at hk;omega)
   refine⟨v,?_,by rw[xB,di _ _ e];exact k2⟩
   rw[show k-k0=(k-(k0+1))+1 from by simp at hk;omega];simpa using k1
  simp at hk
  rw[xB,di _ _ oaa]
  exact(h2 k).2 oaa
 |[],_::_,_,h=>h.elim
 |_::_,[],_,h=>h.elim
theorem La {ob:Laa} {c:C} {r:RC} {ls:List Nat} (h:xF ob c=some (r,ls)):∀l∈ls,∃ty sz els,go ob l=some (.row ty sz els true true):=by
 cases c with
 |d g x=>cases x<;>(try cases g)<;>simp[xF] at h<;>obtain⟨rfl,rfl⟩:=h<;>simp
 |w o n=>
  simp only[xF] at h
  split at h
  .rename_i ty sz els ho hrv
   simp at h;obtain⟨rfl,rfl⟩:=h
   simpa using⟨ty,sz,els,ho⟩
  cases h
 |nil=>simp[xF] at h;obtain⟨rfl,rfl⟩:=h;simp
 |_=>simp[xF] at h
theorem HH {ob:Laa}:∀{cs:List C} {rs:List RC} {ls:List Nat},CQ ob cs=some (rs,ls)->∀l∈ls,∃ty sz els,go ob l=some (.row ty sz els true true)
 |[],rs,ls,h=>by simp[CQ] at h;obtain⟨rfl,rfl⟩:=h;simp
 |c::cs,rs,ls,h=>by
  simp only[CQ] at h
  split at h
  .rename_i r l rs' ls' h1 h2
   simp at h;obtain⟨rfl,rfl⟩:=h
   intro x hx
   rcases aac.1 hx with hx|hx
   .exact La h1 x hx
   exact HH h2 x hx
  cases h
theorem T5 {ob:Laa} {v:V} {r:RV} {ls:List Nat} (h:Nt ob v=some (r,ls)):∀l∈ls,∃ty sz els,go ob l=some (.row ty sz els true true):=by
 cases v with
 |c c=>
  simp only[Nt] at h
  split at h
  .rename_i r l h1;simp at h;obtain⟨rfl,rfl⟩:=h;exact La h1
  cases h
 |agg cs=>
  simp only[Nt] at h
  split at h
  .rename_i r l h1;simp at h;obtain⟨rfl,rfl⟩:=h;exact HH h1
  cases h
theorem HI {ob:Laa}:∀{cs:List V} {rs:List RV} {ls:List Nat},xG ob cs=some (rs,ls)->∀l∈ls,∃ty sz els,go ob l=some (.row ty sz els true true)
 |[],rs,ls,h=>by simp[xG] at h;obtain⟨rfl,rfl⟩:=h;simp
 |c::cs,rs,ls,h=>by
  simp only[xG] at h
  split at h
  .rename_i r l rs' ls' h1 h2
   simp at h;obtain⟨rfl,rfl⟩:=h
   intro x hx
   rcases aac.1 hx with hx|hx
   .exact T5 h1 x hx
   exact HI h2 x hx
  cases h
theorem Xk {cx:Cx} (hR:Rel N cx E st a w) {fn:Func} (h:Fin P fn.results.toList res st):
 ∃v bs,(results fn a.tmps).run P w= .ok v w/\An w E.G cx.w0.heap.size res v bs/\(bs.map (·.1)).Nodup/\∀p∈bs,¬E.F p.1:=by
 obtain⟨vs,ls,h1,h2,h3⟩:=h
 obtain⟨us,k1,k2⟩:=xv hR h1
 obtain⟨bs,m1,m2,m3⟩:=EH hR h2 k2
 have hnd:(bs.map (·.1)).Nodup:=by
  have hnl:=kW h3
  refine aaG.2 λi j hi hj hij he=>?_
  simp only[aay] at hi hj
  obtain⟨p,p1,p2⟩:=m3 i ls[i] (v0 oaa)
  obtain⟨q,q1,q2⟩:=m3 j ls[j] (v0 oaa)
  rw[v0 hi] at p1
  rw[v0 hj] at q1
  cases p1;cases q1
  simp only[List.getElem_map] at he
  rcases hbi:bs[i] with⟨b1,c1⟩
  rcases hbj:bs[j] with⟨b2,c2⟩
  rw[hbi,hbj] at he
  rw[hbi] at p2;rw[hbj] at q2
  have hb:b1=b2:=he
  subst hb
  exact aaG.1 hnl i j oaa oaa hij (hR.ok.inj _ _ _ _ _ p2 q2)
 have hnF:∀p∈bs,¬E.F p.1:=by
  intro p hp
  obtain⟨i,hi,rfl⟩:=List.getElem_of_mem hp
  have hl:i<ls.length:=by omega
  obtain⟨q,q1,q2⟩:=m3 i ls[i] (v0 hl)
  rw[v0 hi] at q1;cases q1
  obtain⟨ty,sz,els,hg⟩:=HI h2 ls[i] (List.getElem_mem hl)
  obtain⟨b,c,arr,r1,r2,r3,r4,r5,r6,r7,r8,r9⟩:=hR.obs _ _ hg
  rw[q2] at r1
  rw[Option.some.inj r1]
  exact r8 rfl
 have hm:(fn.results.mapM (nQ a.tmps)).run P w= .ok us.toArray w:=by
  rw[<-aaV (xs:=fn.results),abt]
  simp only[Sem.run_map,k1]
  rfl
 have hres:results fn a.tmps=(fn.results.mapM (nQ a.tmps))>>= λvs=>pure (if h:vs.size=1 then vs[0] else .tuple vs):=rfl
 have hlen:us.length=vs.length:=by
  have key:∀(vs:List V) (us:Lae),VV E w vs us->us.length=vs.length:=by
   intro vs
   induction vs with
   |nil=>intro us h;cases us with
    |nil=>rfl
    |cons _ _=>exact h.elim
   |cons v vs ih=>intro us h;cases us with
    |nil=>exact h.elim
    |cons u us=>simp[ih us h.2]
  exact key vs us k2
 have hlen2:us.length=res.length:=by
  have key:∀(rs:List RV) (us:Lae) (bs:Lac),DA w E.G cx.w0.heap.size rs us bs->us.length=rs.length:=by
   intro rs
   induction rs with
   |nil=>intro us bs h;cases us with
    |nil=>rfl
    |cons _ _=>exact h.elim
   |cons v vs ih=>intro us bs h;cases us with
    |nil=>exact h.elim
    |cons u us=>obtain⟨b1,b2,_,_,h⟩:=h;simp[ih us b2 h]
  exact key res us bs m1
 match res,us,m1,hlen2 with
 |[],[],m1,_=>exact⟨.tuple #[],bs,by rw[hres];simp[hm],⟨#[],rfl,m1⟩,hnd,hnF⟩
 |[r],[u],m1,_=>
  obtain⟨b1,b2,rfl,h4,h5⟩:=m1
  have:b2=[]:=h5
  subst this
  exact⟨u,b1++[],by rw[hres];simp[hm],by simpa [An] using h4,hnd,hnF⟩
 |r1::r2::rs,u1::u2::us,m1,_=>
  exact⟨.tuple (u1::u2::us).toArray,bs,by rw[hres];simp[hm],⟨_,rfl,m1⟩,hnd,hnF⟩
theorem L5 {G G2:Nat->Prop} {base:Nat} (hG:∀b,G b->G2 b) {r:RC} {bs:Lac} (h:rcR w G base r u bs) (hn:∀p∈bs,¬G2 p.1):rcR w G2 base r u bs:=by
 cases r with
 |d x=>exact⟨h.1,cW (λ_ _=>rfl) hG x u h.2⟩
 |own ty sz els n=>
  obtain⟨b,c,arr,h1,h2,h3,h4,h5,h6,h7,h8,h9,h10⟩:=h
  exact⟨b,c,arr,h1,h2,h3,h4,h5,h6,h7,cX (λ_ _=>rfl) hG rfl _ _ h8,hn (b,c) (by rw[h1];simp),h10⟩
 |nil=>exact h
theorem Ib {w:World} {G G2:Nat->Prop} {base:Nat} (hG:∀b,G b->G2 b):∀{rs:List RC} {us:Lae} {bs:Lac},G4 w G base rs us bs->(∀p∈bs,¬G2 p.1)->G4 w G2 base rs us bs
 |[],[],bs,h,_=>h
 |r::rs,u::us,bs,h,hn=>by
  obtain⟨b1,b2,rfl,h1,h2⟩:=h
  exact⟨b1,b2,rfl,L5 hG h1 (λp hp=>hn p (by simp[hp])),Ib hG h2 (λp hp=>hn p (by simp[hp]))⟩
 |[],_::_,_,h,_=>h.elim
 |_::_,[],_,h,_=>h.elim
theorem Mf {G G2:Nat->Prop} {base:Nat} (hG:∀b,G b->G2 b) {r:RV} {bs:Lac} (h:rvR w G base r u bs) (hn:∀p∈bs,¬G2 p.1):rvR w G2 base r u bs:=by
 cases r with
 |c r=>exact L5 hG h hn
 |agg rs=>obtain⟨arr,h1,h2⟩:=h;exact⟨arr,h1,Ib hG h2 hn⟩
theorem Cw {w:World} {G G2:Nat->Prop} {base:Nat} (hG:∀b,G b->G2 b):∀{rs:List RV} {us:Lae} {bs:Lac},DA w G base rs us bs->(∀p∈bs,¬G2 p.1)->DA w G2 base rs us bs
 |[],[],bs,h,_=>h
 |r::rs,u::us,bs,h,hn=>by
  obtain⟨b1,b2,rfl,h1,h2⟩:=h
  exact⟨b1,b2,rfl,Mf hG h1 (λp hp=>hn p (by simp[hp])),Cw hG h2 (λp hp=>hn p (by simp[hp]))⟩
 |[],_::_,_,h,_=>h.elim
 |_::_,[],_,h,_=>h.elim
theorem RK {G G2:Nat->Prop} {base:Nat} (hG:∀b,G b->G2 b) {rs:List RV} {bs:Lac} (h:An w G base rs u bs) (hn:∀p∈bs,¬G2 p.1):An w G2 base rs u bs:=by
 match rs,h with
 |[],h=>obtain⟨arr,h1,h2⟩:=h;exact⟨arr,h1,Cw hG h2 hn⟩
 |[r],h=>exact Mf hG h hn
 |_::_::_,h=>obtain⟨arr,h1,h2⟩:=h;exact⟨arr,h1,Cw hG h2 hn⟩
def KI (N:Nat) (P:Program) (rs:List ResultVar) (res:List RV) (y:Ob):Exit->St->Prop
 | .ret,s| .normal,s=>∃s',dS N s s'/\Fin P rs res s'/\go s'.ob 200=some y
 |_,_=>False
instance {N:Nat} {P:Program} {rs:List ResultVar} {res:List RV} {y:Ob}:Clo N (KI N P rs res y):=⟨λe s m hw h=>by
 cases e<;>simp only[KI] at h ⊢<;>first|exact h|(obtain⟨s',h1,h2⟩:=h;exact⟨s',an hw h1,h2⟩)⟩
theorem ZH   {fn:Func} {c:Code}   {args:List T}   {sl0:Lab} (hf:P.funcs[f]?=some fn) (hb:fn.body=some c:=by exact rfl) (hnm:(fn.name== "runtime.NumGoroutine")=false:=by kernel_rfl) (hN:fn.ntmps=N) (hrs:fn.results.toList=rs:=by exact rfl)
 (ha:aaz args.length N=true:=by exact rfl) (hfx:x.free=true:=by exact rfl) (hfy:y.free=true:=by exact rfl) (hs:xB 0 args=sl0:=by exact rfl) (h:AWC P N c ⟨sl0,[(200,x)],210⟩ (KI N P rs res y)):FnW P f x args y res:=by
 subst hs
 refine⟨λvs w=>by simp[callFunc,hf,hb];simpa using hnm,λF w vals b cc hF hbl hT hTb hx hA=>?_⟩
 subst hrs
 refine calls_of_wp hf hb ?_
 obtain⟨h1,h2⟩:=DE 0 hA
 have hle:args.length<=N:=aaO ha
 have hsz:vals.size=args.length:=by simpa using h1
 have hrv:rsv 200=true:=rfl
 have hrp:rsp 200=true:=rfl
 have hbF:¬F b:=by
  cases x with
  |rown ty sz els g=>exact absurd hfx aa9
  |abs l y=>exact absurd hfx aa9
  |var ty cs=>obtain⟨b',c',arr,h1,h2,h3,h4⟩:=hx;cases h1;exact h4
  |row ty sz els g m=>
   obtain⟨b',c',arr,h1,h2,h3,h4,h5,h6,h7,h8,h9⟩:=hx
   cases h1
   have hm:m=true:=hfx
   subst hm
   exact h8 rfl
 have hr0:∀o p,(E0 b cc F).r o=some p->o=200/\p=(b,cc):=λo p h=>by
  simp only[E0] at h
  split at h
  .cases h;exact⟨by assumption,rfl⟩
  cases h
 have hR:Rel N ⟨w,λk=>k=b,(E0 b cc F).r,F,λ_=>False,⟨hT,hTb⟩,λ_=>False⟩ (E0 b cc F) ⟨xB 0 args,[(200,x)],210⟩ {tmps:=vals++aak (fn.ntmps-vals.size) undef,defers:=[]} w:=by
  refine⟨⟨hF,λ_ h=>h.elim,λ_ h=>h.elim,λo k k' h=>?_,λo o' k k' k'' h h'=>?_,rfl,rfl,rfl,aah _,λ_ _ _=>rfl,λ_ _ _ h=>h,λ_ h=>.inl h,λb h h'=>absurd (hF b h) (by have:w.heap.size<=b:=h';omega),⟨λ_ _ h=>h.elim,λ_ _ _ h=>h.elim,λ_ h=>h.elim,λ_ h=>h.elim,λ_ h=>h.elim⟩⟩,λo p h=>?_,λo ob h=>?_,λk=>?_,rfl,by simp;omega,λ_ _ h=>h.elim⟩
  .obtain⟨rfl,hp⟩:=hr0 _ _ h;cases hp;exact⟨hbl,.inr ⟨rfl,hrv⟩⟩
  .rw[(hr0 _ _ h).1,(hr0 _ _ h').1]
  .rw[(hr0 _ _ h).1];exact(by decide:200<210)
  .by_cases e:200=o
   .subst e;rw[cU] at h;cases h;exact hx
   rw[b7 _ _ e] at h;cases h
  by_cases hk:k<args.length
  .obtain⟨u,h3,h4⟩:=(h2 k).1 ⟨aas _,by omega⟩
   have:(vals++aak (fn.ntmps-vals.size) undef).getD k undef=u:=by
    have h5:vals[k]?=some u:=by simpa using h3
    have h6:(vals++aak (fn.ntmps-vals.size) undef)[k]?=some u:=by rw[abp oaa];exact h5
    simp[h6]
   rw[this];exact h4
  have:=(h2 k).2 oaa
  show cvT _ w (gt (xB 0 args) k) _
  rw[this];trivial
 refine wp_mono (h _ _ _ w hR) ?_
 rintro e a' w' ⟨E',s',hR',hq⟩
 have fin:(∃s'',dS N s' s''/\Fin P fn.results.toList res s''/\go s''.ob 200=some y)->
  a'.defers=[]/\∃v,(results fn a'.tmps).run P w'= .ok v w'/\∃v' G bs,Ending.returned v= .returned v'/\IK w w' (λk=>k=b)/\(∀k,G k->w.heap.size<=k/\k<w'.heap.size/\jL w' k)/\An w' G w.heap.size res v' bs/\(bs.map (·.1)).Nodup/\dm (E1 b cc F G) w' 200 y:=by
  rintro⟨s'',hw,hfin,hgo⟩
  obtain⟨E'',hR''⟩:=hw _ _ _ _ hR'
  obtain⟨v,bs,k1,k2,k3,k4⟩:=Xk hR'' hfin
  have ok:=hR''.ok
  refine⟨hR''.dfr,v,k1,v,λk=>E''.F k/\w.heap.size<=k,bs,rfl,⟨ok.os,ok.tape,ok.output,ok.size,ok.block⟩,λk hk=>⟨hk.2,ok.fb k hk.1,ok.gc k hk.1 hk.2⟩,RK (λk hk=>⟨ok.gf k hk,(ok.gn k hk).resolve_right id⟩) k2 (λp hp hg=>k4 p hp hg.1),k3,?_⟩
  refine Al hfy (λk c hk=>?_) (λg k hk=>?_) (λ_ _ _=>rfl) (λ_ _ _=>rfl) (λk c hk hn hk'=>?_) (hR''.obs _ _ hgo)
  .have:=ok.pin 200 _ hrp hk
   exact this
  .cases g with
   |false=>
    rcases ok.ff k hk with h|h
    .exact .inl h
    exact .inr ⟨hk,h⟩
   |true=>exact⟨ok.gf k hk,(ok.gn k hk).resolve_right id⟩
  rcases hk' with h|h
  .have:=ok.pin 200 _ hrp hk
   have h9:=hr0 200 (k,c) this
   cases h9.2
   exact hbF h
  exact hn h.1
 cases e with
 |normal=>exact fin hq
 |ret=>exact fin hq
 |_=>exact hq.elim
def zu (nob:Laa) (o:Nat):C->Option (C×Lac)
 | .p l k=>bif d0 l o then some (.p 200 k,[]) else none
 | .w l n=>bif d0 l o then some (.w 200 n,[]) else match AS nob (.w l n) with
  |some (x,e)=>some (.d false x,e)
  |none=>none
 | .nil=>some (.nil,[])
 |c=>match AS nob c with
  |some (x,e)=>some (.d false x,e)
  |none=>none
def LI (nob:Laa) (o:Nat):List C->Option (List C×Lac)
 |[]=>some ([],[])
 |c::cs=>match zu nob o c,LI nob o cs with
  |some (x,e),some (xs,e')=>some (x::xs,e++e')
  |_,_=>none
def ZX (nob:Laa) (o:Nat):T->Option (T×Lac)
 | .v (.c c)=>match zu nob o c with
  |some (x,e)=>some (.v (.c x),e)
  |none=>none
 | .v (.agg cs)=>match LI nob o cs with
  |some (x,e)=>some (.v (.agg x),e)
  |none=>none
 |_=>none
def CY (nob:Laa) (o:Nat):List T->Option (List T×Lac)
 |[]=>some ([],[])
 |c::cs=>match ZX nob o c,CY nob o cs with
  |some (x,e),some (xs,e')=>some (x::xs,e++e')
  |_,_=>none
section
variable {cx:Cx} {E:Env} {w:World} {nob:Laa} {o b c0:Nat} (ok:dJ cx E w) (hob:∀l x,go nob l=some x->dm E w l x) (hr:E.r o=some (b,c0))
include ok hob hr
theorem Pu {c:C} {x:C} {e:Lac} (h:zu nob o c=some (x,e)) (he:Eqs e) (hc:cvC E w c u):cvC (E0 b c0 (mM E nob)) w x u:=by
 have gen:∀{c x e},(match AS nob c with|some (x,e)=>some (C.d false x,e)|none=>none)=some (x,e)->Eqs e->cvC E w c u->cvC (E0 b c0 (mM E nob)) w x u:=by
  intro c x e h he hc
  split at h
  .rename_i y e' h1
   simp at h;obtain⟨rfl,rfl⟩:=h
   exact DG ok hob h1 he hc
  cases h
 cases c with
 |p l k=>
  simp only[zu] at h
  cases hb:d0 l o with
  |false=>rw[hb] at h;cases h
  |true=>
   rw[hb] at h;simp at h;obtain⟨rfl,rfl⟩:=h
   have:=aad hb;subst this
   obtain⟨b',c',h1,h2⟩:=hc
   rw[hr] at h1;cases h1
   exact⟨b,c0,by simp[E0],h2⟩
 |w l n=>
  simp only[zu] at h
  cases hb:d0 l o with
  |false=>rw[hb] at h;exact gen h he hc
  |true=>
   rw[hb] at h;simp at h;obtain⟨rfl,rfl⟩:=h
   have:=aad hb;subst this
   obtain⟨b',c',h1,h2⟩:=hc
   rw[hr] at h1;cases h1
   exact⟨b,c0,by simp[E0],h2⟩
 |nil=>simp[zu] at h;obtain⟨rfl,rfl⟩:=h;exact hc
 |d g y=>exact gen (by simpa only[zu] using h) he hc
 |s o sz off len=>exact gen (by simpa only[zu] using h) he hc
 |e o sz i j=>exact gen (by simpa only[zu] using h) he hc
 |q g x j=>exact gen (by simpa only[zu] using h) he hc
 |fn f=>exact gen (by simpa only[zu] using h) he hc
 |any=>exact gen (by simpa only[zu] using h) he hc
 |r l x=>exact gen (by simpa only[zu] using h) he hc
 |z x=>exact gen (by simpa only[zu] using h) he hc
 |zq x j=>exact gen (by simpa only[zu] using h) he hc
 |wn l n=>exact gen (by simpa only[zu] using h) he hc
theorem LJ:∀{cs xs:List C} {e:Lac} {us:Lae},LI nob o cs=some (xs,e)->Eqs e->CV E w cs us->CV (E0 b c0 (mM E nob)) w xs us
 |[],xs,e,us,h,he,hc=>by simp[LI] at h;obtain⟨rfl,rfl⟩:=h;cases us with
  |nil=>trivial
  |cons _ _=>exact hc.elim
 |c::cs,xs,e,us,h,he,hc=>by
  simp only[LI] at h
  split at h
  .rename_i x e1 xs' e2 h1 h2
   simp at h;obtain⟨rfl,rfl⟩:=h
   obtain⟨g1,g2⟩:=eY he
   cases us with
   |nil=>exact hc.elim
   |cons u us=>exact⟨Pu ok hob hr h1 g1 hc.1,LJ h2 g2 hc.2⟩
  cases h
theorem XA {t t':T} {e:Lac} (h:ZX nob o t=some (t',e)) (he:Eqs e) (hc:cvT E w t u):cvT (E0 b c0 (mM E nob)) w t' u:=by
 unfold ZX at h
 split at h
 .split at h
  .rename_i c x e' h1;simp at h;obtain⟨rfl,rfl⟩:=h;exact Pu ok hob hr h1 he hc
  cases h
 .split at h
  .rename_i cs x e' h1;simp at h;obtain⟨rfl,rfl⟩:=h
   obtain⟨arr,hu,hc⟩:=hc
   exact⟨arr,hu,LJ ok hob hr h1 he hc⟩
  cases h
 cases h
theorem Fo {a:Act}:∀{ts ts':List T} {e:Lac} {args:List Operand},CY nob o ts=some (ts',e)->Eqs e->ts.length=args.length->(∀x t,(x,t)∈args.zip ts->cvT E w t (a.eval x))->TV (E0 b c0 (mM E nob)) w ts' (args.map a.eval)
 |[],ts',e,args,h,he,hl,hn=>by
  simp[CY] at h;obtain⟨rfl,rfl⟩:=h
  cases args with
  |nil=>trivial
  |cons _ _=>simp at hl
 |t::ts,ts',e,args,h,he,hl,hn=>by
  simp only[CY] at h
  split at h
  .rename_i x e1 xs' e2 h1 h2
   simp at h;obtain⟨rfl,rfl⟩:=h
   obtain⟨g1,g2⟩:=eY he
   cases args with
   |nil=>simp at hl
   |cons y args=>exact⟨XA ok hob hr h1 g1 (hn y t (by simp)),Fo h2 g2 (by simpa using hl) (λx t hm=>hn x t (by simp[hm]))⟩
  cases h
end
theorem XP {d:Tmp} {ob:Laa} {o:Nat} {x0:Ob} 
 (hF:FnW P f x0.loc ts' y res) (ht:Bt sl args=some ts) (ho:go ob o=some x0) (hfx:x0.free=true) (hfy:y.free=true) (ha:CY [] o ts=some (ts',eqs)) (he:Eqs eqs) (hi:Fe nx res=some (out,nw,n)) (hw:LU nx nw n=true) (hN:nlt d N=true):
 AWO P N ⟨some d,.call ⟨.value (.func f),args.toArray,tys⟩,ty,ps,af,gd⟩ ⟨sl,ob,nx⟩ ⟨(d,out)::sl,nw++(o,y)::ob,n⟩:=by
 intro cx E a w hR
 obtain⟨t1,t2⟩:=ub ht
 obtain⟨nob,hnob⟩:∃nob:Laa,nob=[]:=⟨_,rfl⟩
 rw[<-hnob] at ha
 have hob:∀l x,go nob l=some x->dm E w l x:=λl x h=>by subst hnob;cases h
 have hx0:=hR.obs o x0 ho
 obtain⟨b,c0,hr,hbF⟩:∃b c0,E.r o=some (b,c0)/\¬E.F b:=by
  cases x0 with
  |rown ty sz els g=>exact absurd hfx aa9
  |abs l y=>exact absurd hfx aa9
  |var t cs=>obtain⟨b,c,arr,h1,h2,h3,h4⟩:=hx0;exact⟨b,c,h1,h4⟩
  |row t sz els g m=>
   obtain⟨b,c,arr,h1,h2,h3,h4,h5,h6,h7,h8,h9⟩:=hx0
   have hm:m=true:=hfx
   subst hm
   exact⟨b,c,h1,h8 rfl⟩
 have hnl:∀l x,go nob l=some x->l≠o:=λl x h=>by subst hnob;cases h
 have hbC:¬mM E nob b:=by
  rintro(h|⟨l,x,c,h1,h2⟩)
  .exact hbF h
  exact hnl l x h1 (hR.ok.inj _ _ _ _ _ h2 hr)
 have hFb:∀b,mM E nob b->b<w.heap.size:=by
  rintro b (h|⟨l,x,c,h1,h2⟩)
  .exact hR.ok.fb b h
  exact(hR.ok.rb l b c h2).1
 have hbs0:=(hR.ok.rb o b c0 hr).1
 have hA:=Fo (a:=a) hR.ok hob hr ha he t1 (λx t hm=>by have:=hR.op x;rwa [Lk.mem t2 x t hm] at this)
 have hX:dm (E0 b c0 (mM E nob)) w 200 x0.loc:=by
  have hl:=Ig hR.ok hfx hx0
  have hfl:x0.loc.free=true:=by
   cases x0 with
   |rown ty sz els g=>exact absurd hfx aa9
   |abs l y=>exact absurd hfx aa9
   |var t cs=>
    simp only[Ob.loc,Ob.free,List.all_map] at hfx ⊢
    refine aag.2 λc hc=>?_
    have:=aag.1 hfx c hc
    cases c<;>simp_all [C.loc,C.free]
   |row t sz els g m=>exact hfx
  have hnoG:∀E2:Env,(∀k,E.F k->E2.F k)->E2.r 200=some (b,c0)->¬E2.F b->dm E2 w 200 x0.loc:=by
   intro E2 h1 h2 h3
   cases x0 with
   |rown ty sz els g=>exact absurd hfx aa9
   |abs l y=>exact absurd hfx aa9
   |var t cs=>
    obtain⟨b',c',arr,k1,k2,k3,k4⟩:=hl
    rw[hr] at k1;cases k1
    refine⟨b,c0,arr,h2,k2,?_,h3⟩
    have key:∀(cs:List C) (us:Lae),cs.all C.free=true->CV E w (cs.map C.loc) us->CV E2 w (cs.map C.loc) us:=by
     intro cs
     induction cs with
     |nil=>
      intro us _ h
      cases us with
      |nil=>trivial
      |cons _ _=>exact h.elim
     |cons c cs ih=>
      intro us hf h
      simp only[aaK,hV] at hf
      cases us with
      |nil=>exact h.elim
      |cons u us=>
       refine⟨?_,ih us hf.2 h.2⟩
       have h5:=h.1
       cases c with
       |d g y=>exact cW (λ_ _=>rfl) h1 _ _ h5
       |nil=>exact h5
       |fn f=>exact h5
       |any=>trivial
       |_=>simp[C.free] at hf
    exact key cs _ hfx k3
   |row t sz els g m=>
    obtain⟨b',c',arr,k1,k2,k3,k4,k5,k6,k7,k8,k9⟩:=hl
    rw[hr] at k1;cases k1
    have hm:m=true:=hfx
    subst hm
    exact⟨b,c0,arr,h2,k2,k3,k4,k5,k6,cX (λ_ _=>rfl) h1 rfl _ _ k7,λ_=>h3,λh=>by cases h⟩
  exact hnoG _ (λk hk=>.inl hk) (by simp[E0]) hbC
 have hc:=hF.calls (mM E nob) w (args.map a.eval).toArray b c0 hFb hbs0 hR.ok.tabs (hR.ok.ntab hr) hX (by simpa using hA)
 have hent:=hF.enters (args.map a.eval).toArray w
 unfold Oper.wp
 have hrun:(execOp a.eval ⟨some d,.call ⟨.value (.func f),args.toArray,tys⟩,ty,ps,af,gd⟩).run P w= .ok (.enter f (args.map a.eval).toArray) w:=by
  simp only[execOp,resolve,Act.eval,Deferred.ofValue,Sem.run_bind,Sem.run_pure,Result.andThen_ok,invoke]
  simpa using hent
 rw[hrun,Oper.upon_enter]
 refine hc.mono ?_
 rintro e w' ⟨v,G,bs,rfl,hpast,hG2,hres,hnd,hY⟩
 have hdom:∀l p,E.r l=some p->l<nx:=hR.dom
 have hbs:=JZ hres
 have hnw:=Nw.mem (DO hw)
 have hlab:∀l,nx<=l->l<nx+bs.length->E.r l=none/\rsv l=false:=by
  have himp:=yV (E:=⟨λo=>bs[o-nx]?,G,G,λ_ _=>False,λ_=>False,λ_=>False⟩) (λ_ h=>h) (λb _ h=>h) hi hres (λi p hi=>by simpa using hi)
  intro l h1 h2
  obtain⟨x,hx⟩:=himp.2.2.2 l h1 (by rw[himp.2.1];exact h2)
  have h3:=hnw.2 l x hx
  refine⟨?_,h3.2.2⟩
  cases hq:E.r l with
  |none=>rfl
  |some p=>have:=hdom l p hq;omega
 let E':Env:=⟨λl=>if nx<=l/\l<nx+bs.length then bs[l-nx]? else E.r l,λk=>E.F k\/G k,λk=>E.G k\/G k,E.T,E.Z,E.n⟩
 have hsz:=hpast.size
 have hws:=hR.ok.size
 have hold:∀l p,E.r l=some p->E'.r l=some p:=λl p h=>by
  show(if nx<=l/\l<nx+bs.length then bs[l-nx]? else E.r l)=some p
  rw[if_neg]
  .exact h
  rintro⟨h1,h2⟩;have:=(hlab l h1 h2).1;rw[this] at h;cases h
 have hnew:∀l b c,E'.r l=some (b,c)->(nx<=l/\l<nx+bs.length/\bs[l-nx]?=some (b,c))\/(E.r l=some (b,c)):=by
  intro l b c h
  have h:(if nx<=l/\l<nx+bs.length then bs[l-nx]? else E.r l)=some (b,c):=h
  split at h
  .rename_i hh;exact .inl ⟨hh.1,hh.2,h⟩
  exact .inr h
 have hheap:∀k,k<w.heap.size->k≠b->w'.heap[k]?=w.heap[k]?:=λk hk hne=>hpast.block k hk hne
 have hHb:∀g k,E.H g k->k≠b/\k<w.heap.size:=λg k hk=>⟨λe=>by subst e;cases g;exact hbF hk;exact hbF (hR.ok.gf _ hk),hR.ok.hb hk⟩
 have hk:lf E w E' w':=⟨hold,λg k h=>by cases g<;>exact .inl h,λg k h=>hheap k (hHb g k h).2 (hHb g k h).1,λl k h=>⟨h,hheap k (hR.ok.sf.tb l k h).1.1 (λe=>by subst e;exact(hR.ok.sf.tb l k h).2.2.1 o c0 hr)⟩,λk h=>⟨h,.of_eq (hheap k (hR.ok.sf.zb k h).1.2.1 (λe=>by subst e;exact(hR.ok.sf.zb k h).2.2.1 o c0 hr))⟩,rfl⟩
 have ok':dJ cx E' w':=by
  refine⟨λk h=>?_,λk h=>?_,λk h=>?_,λl k c h=>?_,λl l' k c c' h h'=>?_,by rw[hpast.os];exact hR.ok.os,by rw[hpast.tape];exact hR.ok.tape,by rw[hpast.output];exact hR.ok.output,by omega,λk h hW=>?_,λl p hv h=>?_,λk h=>?_,
   λk h h'=>h.elim (λh=>(hR.ok.gc k h h').of_eq (hheap k (hHb false k h).2 (hHb false k h).1)) (λh=>(hG2 k h).2.2),
   hR.ok.sf.turn hr rfl rfl (λk h=>h.elim .inl (λh=>.inr (hG2 k h).1)) (λl k c h=>by
    rcases hnew l k c h with⟨_,_,h⟩|h
    .exact .inr (hbs _ (aab h)).1
    exact .inl ⟨l,c,h⟩) hsz hheap⟩
  .rcases h with h|h
   .have:=hR.ok.fb k h;omega
   exact(hG2 k h).2.1
  .rcases h with h|h
   .exact .inl (hR.ok.gf k h)
   exact .inr h
  .rcases h with h|h
   .exact hR.ok.gn k h
   have:=hG2 k h;omega
  .rcases hnew l k c h with⟨_,_,h⟩|h
   .have:=hbs _ (aab h);exact⟨this.2,.inl (by have:=this.1;simp at this;omega)⟩
   have:=hR.ok.rb l k c h;exact⟨by omega,this.2⟩
  .rcases hnew l k c h with⟨h1,h2,h3⟩|h3<;>rcases hnew l' k c' h' with⟨k1,k2,k3⟩|k3
   .have hi:l-nx<bs.length:=by omega
    have hj:l'-nx<bs.length:=by omega
    rcases abr (l-nx) (l'-nx) with hlt|heq|hlt
    .exfalso
     have:=aaG.1 hnd (l-nx) (l'-nx) (by simpa using hi) (by simpa using hj) hlt
     rw[v0 hi] at h3;rw[v0 hj] at k3
     simp at h3 k3;simp[h3,k3] at this
    .omega
    exfalso
    have:=aaG.1 hnd (l'-nx) (l-nx) (by simpa using hj) (by simpa using hi) hlt
    rw[v0 hi] at h3;rw[v0 hj] at k3
    simp at h3 k3;simp[h3,k3] at this
   .have h5:=hbs _ (aab h3);have h6:=hR.ok.rb l' k c' k3;simp at h5;omega
   .have h5:=hbs _ (aab k3);have h6:=hR.ok.rb l k c h3;simp at h5;omega
   exact hR.ok.inj l l' k c c' h3 k3
  .have hkb:k≠b:=λe=>by
    subst e
    rcases(hR.ok.rb o k c0 hr).2 with h'|h'
    .omega
    exact hW h'.1
   rw[hheap k oaa hkb];exact hR.ok.block k h hW
  .rcases hnew l p.1 p.2 h with⟨h1,h2,_⟩|h
   .rw[rJ (hlab l h1 h2).2] at hv;cases hv
   exact hR.ok.pin l p hv h
  rcases h with h|h
  .exact hR.ok.ff k h
  exact .inr (by have:=hG2 k h;omega)
 have himp:=yV (E:=E') (G:=G) (base:=w.heap.size) (λb h=>.inr h) (λb hb hng hF=>by
  rcases hF with h|h
  .have:=hR.ok.fb b h;omega
  exact hng h) hi hres (λi p hi=>by
  have:i<bs.length:=(aaa.1 hi).1
  show(if nx<=nx+i/\nx+i<nx+bs.length then bs[nx+i-nx]? else E.r (nx+i))=some p
  rw[if_pos oaa];simpa using hi)
 refine⟨E',ok',λl p h=>?_,λl x hl=>?_,λk=>?_,hR.dfr,by simpa [Act.put] using hR.size,λl k h=>aau (hR.td l k h) hnw.1⟩
 .rcases hnew l p.1 p.2 h with⟨h1,h2,_⟩|h
  .obtain⟨x,hx⟩:=himp.2.2.2 l h1 (by rw[himp.2.1];exact h2);exact(hnw.2 l x hx).2.1
  have:=hdom l p h;show l<n;omega
 .rcases Cf hl with h|h
  .exact(himp.2.2.1 l x h).1
  by_cases hlo:o=l
  .subst hlo
   rw[cU] at h;cases h
   refine Al hfy (λk c h=>?_) (λg k h=>?_) (λ_ _ _=>rfl) (λ_ _ _=>rfl) (λk c h hn hh=>?_) hY
   .simp[E1] at h;rw[<-h.1,<-h.2];exact hold _ _ hr
   .cases g with
    |false=>
     rcases h with h|h
     .rcases h with h|⟨l,x,c,h1,h2⟩
      .exact .inl h
      subst hnob;cases h1
     exact .inr h
    |true=>exact .inr h
   simp[E1] at h;obtain⟨rfl,rfl⟩:=h
   rcases hh with hh|hh
   .exact hbF hh
   have:=hG2 _ hh;omega
  rw[b7 _ _ hlo] at h
  exact gU hk (λk c h'=>hheap k (hR.ok.rb _ _ _ h').1 (λe=>hlo (by subst e;exact hR.ok.inj _ _ _ _ _ hr h'))) (λk c h' hn hh=>by
   rcases hh with hh|hh
   .exact hn hh
   have:=hG2 k hh;have:=(hR.ok.rb _ _ _ h').1;omega) (hR.obs l x h)
 rw[iJ (by rw[hR.size];exact dr hN)]
 by_cases hdk:d=k
 .subst hdk;rw[d4,if_pos rfl];exact himp.1
 rw[di _ _ hdk,if_neg hdk];exact kT hk (hR.sl k)
theorem cw {d:Tmp} {ob:Laa} {o:Nat} {x0 x1:Ob} 
 (hF:FnW P f x1 ts' y res) (ht:Bt sl args=some ts:=by exact rfl) (ho:go ob o=some x0:=by exact rfl) (hl:x0.loc=x1:=by exact rfl) (hfx:x0.free=true:=by exact rfl) (hfy:y.free=true:=by exact rfl) (ha:CY [] o ts=some (ts',eqs):=by exact rfl) (he:Eqs eqs:=by repeat (first|exact trivial|refine⟨by first|rfl|exact lm _|simp,?_⟩)) (hi:Fe nx res=some (out,nw,n):=by exact rfl) (hw:LU nx nw n=true:=by exact rfl) (hN:nlt d N=true:=by exact rfl) (hob:apO nw ((o,y)::ob)=some ob':=by exact rfl):
 AWO P N ⟨some d,.call ⟨.value (.func f),args.toArray,tys⟩,ty,ps,af,gd⟩ ⟨sl,ob,nx⟩ ⟨(d,out)::sl,ob',n⟩:=by
 subst hl
 rw[xA hob]
 exact XP hF ht ho hfx hfy ha he hi hw hN
theorem f9 {res':List RV} {vs:List V} {ls:List Nat} {y':Ob} (h:pD P s rs vs:=by repeat' (first|exact .nil|apply pD.cons|exact .tmp rfl|exact .cell rfl rfl rfl|exact .cell1 rfl rfl)) (he:xG s.ob vs=some (res',ls):=by exact rfl) (hn:oR ls=true:=by exact rfl) (hr:res'=res:=by first|rfl|simp) (hy:go s.ob 200=some y':=by exact rfl) (hyy:y'=y:=by first|rfl|simp):KI N P rs res y .ret s:=by
 subst hr;subst hyy;exact⟨s,zo s,⟨vs,ls,h,he,hn⟩,hy⟩
structure FnN (P:Program) (f:FuncId) (args:List AV) (ty:TypeId) (xs:List D):Prop where
 enters:∀(vs:Array Value) (w:World),(callFunc f vs).run P w= .ok (.enter f vs) w
 calls:∀(F:Nat->Prop) (w:World) (vals:Array Value),(∀b,F b->b<w.heap.size)->TabsIn w->AR w F args vals.toList->
  Calls P f vals w λe w'=>∃(b:Nat) (arr:Array Value) (G:Nat->Prop),e= .returned (.pointer (some ⟨b,0,none⟩))/\IK w w' (λ_=>False)/\(∀k,G k->w.heap.size<=k/\k<w'.heap.size/\jL w' k)/\w.heap.size<=b/\b<w'.heap.size/\¬G b/\w'.heap[b]?=some (.cells arr ty (0,0))/\DV w' (λk=>F k\/G k) xs arr.toList
def K8:C->Option D
 | .d _ x=>some x
 | .nil=>some (.l [])
 |_=>none
def z6:List C->Option (List D)
 |[]=>some []
 |c::cs=>match K8 c,z6 cs with
  |some x,some xs=>some (x::xs)
  |_,_=>none
theorem TL {cx:Cx} (ok:dJ cx E w) {c:C} {x:D} (h:K8 c=some x) (hc:cvC E w c u):rdD w E.F x u:=by
 cases c with
 |d g y=>simp[K8] at h;subst h;exact pF (g':=false) ok hc (by simp)
 |nil=>
  simp[K8] at h;subst h
  have hu:u= .slice none 0 0:=hc
  subst hu
  rw[rdD];simp_all
 |_=>simp[K8] at h
theorem Hy {cx:Cx} {E:Env} {w:World} (ok:dJ cx E w):∀{cs:List C} {xs:List D} {us:Lae},z6 cs=some xs->CV E w cs us->DV w E.F xs us
 |[],xs,[],h,_=>by simp[z6] at h;subst h;trivial
 |[],_,_::_,_,hc=>hc.elim
 |c::cs,xs,[],h,hc=>hc.elim
 |c::cs,xs,u::us,h,hc=>by
  simp only[z6] at h
  split at h
  .rename_i x xs' h1 h2
   simp at h;subst h
   exact⟨TL ok h1 hc.1,Hy ok h2 hc.2⟩
  cases h
theorem IG {w w':World} {F F':Nat->Prop} (hw:∀b,F b->w'.heap[b]?=w.heap[b]?) (hF:∀b,F b->F' b):∀{xs:List D} {us:Lae},DV w F xs us->DV w' F' xs us
 |[],[],_=>trivial
 |x::xs,u::us,h=>⟨cW hw hF x u h.1,IG hw hF h.2⟩
 |[],_::_,h=>h.elim
 |_::_,[],h=>h.elim
def OJ (N:Nat) (rs:List ResultVar) (ty:TypeId) (xs:List D):Exit->St->Prop
 | .ret,s| .normal,s=>∃s' k o cs,dS N s s'/\rs=[.tmp k]/\gt s'.sl k= .v (.c (.p o 0))/\go s'.ob o=some (.var ty cs)/\z6 cs=some xs/\rsv o=false
 |_,_=>False
instance {N:Nat} {rs:List ResultVar} {ty:TypeId} {xs:List D}:Clo N (OJ N rs ty xs):=⟨λe s m hw h=>by
 cases e<;>simp only[OJ] at h ⊢<;>first|exact h|(obtain⟨s',k,o,cs,h1,h2⟩:=h;exact⟨s',k,o,cs,an hw h1,h2⟩)⟩
theorem T6 {xs xs':List D} {o:Nat} (h1:rs=[.tmp k]:=by exact rfl) (h2:gt s.sl k= .v (.c (.p o 0)):=by exact rfl) (h3:go s.ob o=some (.var ty cs):=by exact rfl) (h4:z6 cs=some xs':=by exact rfl) (h5:rsv o=false:=by exact rfl) (h6:xs'=xs:=by exact rfl):OJ N rs ty xs .ret s:=by
 subst h6;exact⟨s,k,o,cs,zo s,h1,h2,h3,h4,h5⟩
theorem ZG   {fn:Func} {c:Code}  {args:List AV}   {xs:List D} {sl0:Lab} (hf:P.funcs[f]?=some fn) (hb:fn.body=some c:=by exact rfl) (hnm:(fn.name== "runtime.NumGoroutine")=false:=by kernel_rfl) (hN:fn.ntmps=N) (hrs:fn.results.toList=rs:=by exact rfl)
 (ha:aaz args.length N=true:=by exact rfl) (hs:KR 0 args=some sl0:=by exact rfl) (h:AWC P N c ⟨sl0,[],0⟩ (OJ N rs ty xs)):FnN P f args ty xs:=by
 rw[IP hs] at h
 refine⟨λvs w=>by simp[callFunc,hf,hb];simp_all,λF w vals hF hT hA=>?_⟩
 subst hrs
 refine calls_of_wp hf hb ?_
 let E:Env:={r:=λ_=>none,F:=F,G:=λ_=>False}
 obtain⟨h1,h2⟩:=Eh (E:=E) (F:=F) rfl 0 hA
 have hle:args.length<=N:=aaO ha
 have hsz:vals.size=args.length:=by simpa using h1
 have hR:Rel N ⟨w,λ_=>False,λ_=>none,F,λ_=>False,⟨hT,λ_ _ h=>h⟩,λ_=>False⟩ E ⟨xb 0 args,[],0⟩ {tmps:=vals++aak (fn.ntmps-vals.size) undef,defers:=[]} w:=by
  refine⟨⟨hF,λ_ h=>h.elim,λ_ h=>h.elim,(λ_ _ _ h=>by cases h),(λ_ _ _ _ _ h=>by cases h),rfl,rfl,rfl,aah _,λ_ _ _=>rfl,(λ_ _ _ h=>by cases h),λ_ h=>.inl h,λb h h'=>absurd (hF b h) (by simp_all),⟨λ_ _ h=>h.elim,λ_ _ _ h=>h.elim,λ_ h=>h.elim,λ_ h=>h.elim,λ_ h=>h.elim⟩⟩,(λ_ _ h=>by cases h),(λ_ _ h=>by cases h),λk=>?_,rfl,by simp;omega,λ_ _ h=>h.elim⟩
  by_cases hk:k<args.length
  .obtain⟨u,h3,h4⟩:=(h2 k).1 ⟨aas _,by omega⟩
   have:(vals++aak (fn.ntmps-vals.size) undef).getD k undef=u:=by
    have h5:vals[k]?=some u:=by simpa using h3
    have h6:(vals++aak (fn.ntmps-vals.size) undef)[k]?=some u:=by rw[abp oaa];exact h5
    simp[h6]
   simp_all
  have:=(h2 k).2 oaa
  show cvT E w (gt (xb 0 args) k) _
  rw[this];trivial
 refine wp_mono (h _ E _ w hR) ?_
 rintro e a' w' ⟨E',s',hR',hq⟩
 have fin:(∃s'' k o cs,dS N s' s''/\fn.results.toList=[.tmp k]/\gt s''.sl k= .v (.c (.p o 0))/\go s''.ob o=some (.var ty cs)/\z6 cs=some xs/\rsv o=false)->
  a'.defers=[]/\∃v,(results fn a'.tmps).run P w'= .ok v w'/\∃(b:Nat) (arr:Array Value) (G:Nat->Prop),Ending.returned v= .returned (.pointer (some ⟨b,0,none⟩))/\IK w w' (λ_=>False)/\(∀k,G k->w.heap.size<=k/\k<w'.heap.size/\jL w' k)/\w.heap.size<=b/\b<w'.heap.size/\¬G b/\w'.heap[b]?=some (.cells arr ty (0,0))/\DV w' (λk=>F k\/G k) xs arr.toList:=by
  rintro⟨s'',k,o,cs,hw,hr1,hg,ho,hd,hv⟩
  obtain⟨E'',hR''⟩:=hw _ _ _ _ hR'
  have ok:=hR''.ok
  have hsl:=hR''.sl k
  rw[hg] at hsl
  obtain⟨b,cc,hrb,hu⟩:=hsl
  obtain⟨b',c',arr,k1,k2,k3,k4⟩:=hR''.obs o _ ho
  rw[hrb] at k1;cases k1
  have hfr:fn.results= #[.tmp k]:=by apply abm;simpa using hr1
  refine⟨hR''.dfr,.pointer (some ⟨b,0,none⟩),?_,b,arr,λk=>E''.F k/\w.heap.size<=k,rfl,⟨ok.os,ok.tape,ok.output,ok.size,ok.block⟩,λk hk=>⟨hk.2,ok.fb k hk.1,ok.gc k hk.1 hk.2⟩,?_,(ok.rb o b cc hrb).1,λh=>k4 h.1,k2,?_⟩
  .have hres:results fn a'.tmps=(fn.results.mapM (nQ a'.tmps))>>= λvs=>pure (if h:vs.size=1 then vs[0] else .tuple vs):=rfl
   rw[hres,hfr]
   simp[nQ,hu]
  .rcases(ok.rb o b cc hrb).2 with h|h
   .exact h
   simp_all
  exact IG (λ_ _=>rfl) (λk hk=>(ok.ff k hk).elim .inl (λh=>.inr ⟨hk,h⟩)) (Hy ok hd k3)
 cases e with
 |normal=>exact fin hq
 |ret=>exact fin hq
 |_=>exact hq.elim
theorem XH {d:Tmp} {ty0:TypeId} {avs:List AV} {xs:List D} 
 (hl:ts.length=args.length) (ha:Iv [] ts=some (avs,eqs)) (hF:FnN P f avs ty xs) (he:Eqs eqs):
 AWN P ⟨some d,.call ⟨.value (.func f),args.toArray,tys⟩,ty0,ps,af,gd⟩ (args.zip ts) [] (.v (.c (.p nx 0))) [(nx,.var ty (xs.map (ldC false)))]:=by
 intro cx E a w ok hn hb hfr
 have hA:=MO ok (nob:=[]) (λl x h=>by cases h) ha he hl hn
 have hcF:∀b,mM E [] b->E.F b:=by
  rintro b (h|⟨l,x,c,h1,h2⟩)
  .exact h
  cases h1
 have hc:=hF.calls (mM E []) w (args.map a.eval).toArray (λb h=>ok.fb b (hcF b h)) ok.tabs oaa
 have hent:=hF.enters (args.map a.eval).toArray w
 unfold Oper.wp
 have hrun:(execOp a.eval ⟨some d,.call ⟨.value (.func f),args.toArray,tys⟩,ty0,ps,af,gd⟩).run P w= .ok (.enter f (args.map a.eval).toArray) w:=by
  simp only[execOp,resolve,Act.eval,Deferred.ofValue,Sem.run_bind,Sem.run_pure,Result.andThen_ok,invoke]
  simpa using hent
 rw[hrun,Oper.upon_enter]
 refine hc.mono ?_
 rintro e w' ⟨b,arr,G,rfl,hp,hG,hb1,hb2,hbG,hh,hD⟩
 obtain⟨hl0,hrv⟩:=hfr nx (.var ty (xs.map (ldC false))) (List.mem_singleton.2 rfl)
 obtain⟨ok',ext⟩:=HG (nx:=nx) (bs:=[(b,0)]) ok hp hG (by simp_all) (by simp) (λl h1 h2=>by
  grind)
 have hr:(E.after nx [(b,0)] G).r nx=some (b,0):=by simp[Env.after]
 refine⟨.pointer (some ⟨b,0,none⟩),E.after nx [(b,0)] G,rfl,ok',ext,⟨b,0,hr,rfl⟩,λl ob hm=>?_,λl x hx=>?_⟩
 .simp at hm;obtain⟨rfl,rfl⟩:=hm
  refine⟨b,0,arr,hr,hh,?_,?_⟩
  .exact SV (E:=E.after l [(b,0)] G) (F:=λk=>E.F k\/G k) rfl (IG (λ_ _=>rfl) (λk hk=>hk.elim (λh=>.inl (hcF k h)) .inr) hD)
  rintro(h|h)
  .have:=ok.fb b h;omega
  simp_all
 simp only[Env.after] at hx
 grind
theorem cn {d:Tmp} {ty0:TypeId} {ob:Laa} {avs:List AV} {xs:List D} 
 (hF:FnN P f avs ty xs) (ht:Bt sl args=some ts) (ha:Iv [] ts=some (avs,eqs)) (he:Eqs eqs) (hc:ldO false xs=some cs) (hN:nlt d N=true) (hq:nxt nx=some nx'):
 NS P N ⟨some d,.call ⟨.value (.func f),args.toArray,tys⟩,ty0,ps,af,gd⟩ ⟨sl,ob,nx⟩ ⟨(d,.v (.c (.p nx 0)))::sl,(nx,.var ty cs)::ob,nx'⟩ ⟨d,args.zip ts,[],.v (.c (.p nx 0)),[(nx,.var ty cs)]⟩:=by
 obtain⟨h1,h2⟩:=ub ht
 rw[Jy hc]
 exact dT (st:=⟨sl,ob,nx⟩) (XH h1 ha hF he) rfl hN h2 trivial (pR hq)
def EZ (R:Nat->Prop):Env:={r:=λ_=>none,F:=λ_=>False,G:=λ_=>False,Z:=R}
structure YG (w w':World) (R:Nat->Prop):Prop where
 os:w'.os=w.os
 tape:w'.tape=w.tape
 output:w'.output=w.output
 size:w.heap.size<=w'.heap.size
 block:∀b,b<w.heap.size->¬R b->w'.heap[b]?=w.heap[b]?
 sim:∀b,R b->sv w w' b/\jL w' b
structure FnM (P:Program) (f:FuncId) (args:List T) (n:Int):Prop where
 enters:∀(vs:Array Value) (w:World),(callFunc f vs).run P w= .ok (.enter f vs) w
 calls:∀(R:Nat->Prop) (w:World) (vals:Array Value),(∀b,R b->b<w.heap.size/\jL w b)->TabsIn w->(∀k∈wH,¬R k)->TV (EZ R) w args vals.toList->
  Calls P f vals w λe w'=>e= .returned (.int .i64 n)/\YG w w' R
section
variable {P:Program} {N:Nat} {d:Tmp} {x y:Operand} {ty:TypeId} {ps:String} {af:Array Edge} {gd:Option (Nat×Bool)} {sl:Lab} {ob:Laa} {nx:Nat} {α:Type} {enc:α->List D}
theorem XL {xs:Lad} [ht:eB P t e sz by_]:AWN P ⟨some d,.call ⟨.builtin .len,#[x],#[t]⟩,ty,ps,af,gd⟩ [(x,.v (.c (.z (.l xs))))] [] (tI xs.length) []:=
 cM λE ac w hn _=>by
  have h:=hn x _ (.head _)
  simp only[cvT,cvV,cvC,rsD] at h
  obtain⟨A,c,hu,_⟩:=h
  exact⟨_,by simp[execOp,resolve,invoke,builtin,hu,Builtin.len_,underlying,ht.u,goInt];rfl,by rfl⟩
theorem Ro {f off ft:Nat} {e:List D} [h:TyF P t f off ft]:AWN P ⟨some d,.fieldAddr t x f,ty,ps,af,gd⟩ [(x,.v (.c (.zq e j)))] [] (.v (.c (.zq e (j+off)))) []:=
 cM λE a w hn _=>by
  obtain⟨b,k,hu,hb,hl⟩:=hn x _ (.head _)
  exact⟨_,by simp[execOp,hu,tL];rfl,b,k,by simp_all,hb,hl⟩
theorem UU {e:List D} {xd:D} [ht:jN P t] (hc:e[j]?=some xd):AWN P ⟨some d,.load t x,ty,ps,af,gd⟩ [(x,.v (.c (.zq e j)))] [] (.v (.c (.z xd))) []:=
 cM λE a w hn _=>by
  obtain⟨b,k,hu,hb,hl⟩:=hn x _ (.head _)
  obtain⟨u,h1,h2⟩:=N0 hl hc
  exact⟨u,by simp_all[execOp,nN],h2⟩
theorem Me {w:World} {F:Nat->Prop}:∀{e:List D} {b k:Nat},rsL w F e b k->∃us:Lae,us.length=e.length/\(∀(j:Nat) (u:Value),us[j]?=some u->w.cell? ⟨b,k+j,none⟩=some u)/\∀(j:Nat) (xd:D),e[j]?=some xd->∃u,us[j]?=some u/\rsD w F xd u
 |[],b,k,_=>⟨[],rfl,by simp,by simp⟩
 |x::e,b,k,h=>by
  rw[rsL] at h
  obtain⟨⟨u,hc,hu⟩,h⟩:=h
  obtain⟨us,h1,h2,h3⟩:=Me h
  refine⟨u::us,by simp[h1],λj v hj=>?_,λj xd hj=>?_⟩
  .grind
  grind
theorem KH {E:Env} {w:World}:∀{e:List D} {us:Lae},us.length=e.length->(∀(j:Nat) (xd:D),e[j]?=some xd->∃u,us[j]?=some u/\rsD w E.Z xd u)->CV E w (e.map C.z) us
 |[],[],_,_=>trivial
 |x::e,u::us,hl,h=>by
  obtain⟨v,h1,h2⟩:=h 0 x rfl
  simp at h1;subst h1
  exact⟨h2,KH (by simpa using hl) λj xd hj=>by obtain⟨v,h3,h4⟩:=h (j+1) xd (by simpa using hj);exact⟨v,by simpa using h3,h4⟩⟩
 |[],_::_,hl,_=>by simp at hl
 |_::_,[],hl,_=>by simp at hl
theorem FJ {w:World} {F:Nat->Prop}:∀{e:List D} {b k:Nat} (_:rsL w F e b k) (j n:Nat),rsL w F ((e.drop j).take n) b (k+j)
 |[],b,k,_,j,n=>by simp[rsL]
 |x::e,b,k,h,0,0=>by simp[rsL]
 |x::e,b,k,h,0,n+1=>by
  rw[rsL] at h
  have:=FJ h.2 0 n
  simp_all[abu,aaI,aaT,rsL]
 |x::e,b,k,h,j+1,n=>by
  rw[rsL] at h
  have:=FJ h.2 j n
  grind
def zO:List D->Option (List C)
 |[]=>some []
 |x::xs=>match zO xs with|some r=>some (.z x::r)|none=>none
theorem Zj:∀{xs:List D} {cs:List C},zO xs=some cs->cs=xs.map C.z
 |[],cs,h=>by simp[zO] at h;subst h;rfl
 |x::xs,cs,h=>by
  simp only[zO] at h
  split at h
  .rename_i r h1;simp at h;subst h;rw[Zj h1];rfl
  cases h
def zPO (j n:Nat) (e:List D):Option (List C):=match Bu j n e with|some r=>zO r|none=>none
theorem JN {e:List D} [ht:hP P t n] (hj:zPO j n e=some cs):
 AWN P ⟨some d,.load t x,ty,ps,af,gd⟩ [(x,.v (.c (.zq e j)))] [] (.v (.agg cs)) []:=
 cM λE a w hn _=>by
  simp only[zPO] at hj
  split at hj
  .rename_i r h1
   obtain⟨rfl,hle⟩:=Bv h1
   rw[Zj hj]
   obtain⟨b,k,hu,hb,hl⟩:=hn x _ (.head _)
   obtain⟨us,k1,k2,k3⟩:=Me (FJ hl j n)
   have hlen:us.length=n:=by rw[k1];simp;omega
   exact⟨.agg us.toArray,by simp[execOp,hu,sX hlen k2],us.toArray,rfl,by grind[KH]⟩
  cases hj
theorem lz {xs:List α} [eB P t e sz by_] (hx:opT sl x= .v (.c (.z (.l (xs.map enc))))) (hN:nlt d N=true):
 NS0 P N ⟨some d,.call ⟨.builtin .len,#[x],#[t]⟩,ty,ps,af,gd⟩ sl ob nx d (tI xs.length) ⟨d,[(x,.v (.c (.z (.l (xs.map enc)))))],[],tI xs.length,[]⟩:=by
 have:=dT (st:=⟨sl,ob,nx⟩) (XL (P:=P) (d:=d) (ty:=ty) (ps:=ps) (af:=af) (gd:=gd) (t:=t) (xs:=xs.map enc) (x:=x)) rfl hN ⟨hx,trivial⟩ trivial rfl
 simp_all
theorem fz {f off ft:Nat} {e:List D} {j':Nat} [TyF P t f off ft] (hx:opT sl x= .v (.c (.zq e j))) (hN:nlt d N=true) (hk:j+off=j'):NS0 P N ⟨some d,.fieldAddr t x f,ty,ps,af,gd⟩ sl ob nx d (.v (.c (.zq e j'))) ⟨d,[(x,.v (.c (.zq e j)))],[],.v (.c (.zq e j')),[]⟩:=by
 subst hk;exact dT (st:=⟨sl,ob,nx⟩) Ro rfl hN ⟨hx,trivial⟩ trivial rfl
theorem oz {e:List D} {xd:D} [jN P t] (hx:opT sl x= .v (.c (.zq e j))) (hN:nlt d N=true) (hc:e[j]?=some xd):
 NS0 P N ⟨some d,.load t x,ty,ps,af,gd⟩ sl ob nx d (.v (.c (.z xd))) ⟨d,[(x,.v (.c (.zq e j)))],[],.v (.c (.z xd)),[]⟩:=dT (st:=⟨sl,ob,nx⟩) (UU hc) rfl hN ⟨hx,trivial⟩ trivial rfl
theorem oza {e:List D} [hP P t n] (hx:opT sl x= .v (.c (.zq e j))) (hN:nlt d N=true) (hc:zPO j n e=some cs):
 NS0 P N ⟨some d,.load t x,ty,ps,af,gd⟩ sl ob nx d (.v (.agg cs)) ⟨d,[(x,.v (.c (.zq e j)))],[],.v (.agg cs),[]⟩:=dT (st:=⟨sl,ob,nx⟩) (JN hc) rfl hN ⟨hx,trivial⟩ trivial rfl
def zF:D->C->Bool
 | .i k _,.d _ (.i k' _)=>k==k'
 | .b _,.d _ (.b _)=>true
 | .str _,.d _ (.str _)=>true
 |_,_=>false
theorem Vv {cx:Cx} (hR:Rel N cx E st a w) (hp:YG w w' E.Z):Rel N cx E st a w':=by
 have hz:∀b,E.Z b->¬E.F b:=λb h=>(hR.ok.sf.zb b h).2.1
 have hHn:∀g b,E.H g b->¬E.Z b:=λg b h hb=>by cases g;exact hz b hb h;exact hz b hb (hR.ok.gf b h)
 have hrn:∀o b c,E.r o=some (b,c)->¬E.Z b:=λo b c h hb=>(hR.ok.sf.zb b hb).2.2.1 o c h
 have htn:∀l b,E.T l b->¬E.Z b:=λl b h hb=>by have h1:=(hR.ok.sf.tb l b h).1.2;have h2:=(hR.ok.sf.zb b hb).1.1;omega
 have hk:lf E w E w':=⟨λ_ _ h=>h,λ_ _ h=>h,λg b h=>hp.block b (hR.ok.hb h) (hHn g b h),λl b h=>⟨h,hp.block b (hR.ok.sf.tb l b h).1.1 (htn l b h)⟩,λb h=>⟨h,(hp.sim b h).1⟩,rfl⟩
 have hsz:=hp.size
 refine⟨⟨λb h=>by have:=hR.ok.fb b h;omega,hR.ok.gf,hR.ok.gn,λo b c h=>⟨by have:=(hR.ok.rb o b c h).1;omega,(hR.ok.rb o b c h).2⟩,hR.ok.inj,hp.os.trans hR.ok.os,hp.tape.trans hR.ok.tape,hp.output.trans hR.ok.output,by have:=hR.ok.size;omega,λb h hW=>?_,hR.ok.pin,hR.ok.ff,λb h h'=>(hR.ok.gc b h h').of_eq (hp.block b (hR.ok.fb b h) (hHn false b h)),?_⟩,hR.dom,λo x h=>?_,λk=>kT hk (hR.sl k),hR.dfr,hR.size,hR.td⟩
 .rw[hp.block b (by have:=hR.ok.size;omega) (λhz=>hW (hR.ok.sf.zb b hz).1.2.2)];exact hR.ok.block b h hW
 .refine⟨λl b h=>?_,hR.ok.sf.tt,λb h=>?_,λb h=>?_,hR.ok.sf.ze⟩
  .obtain⟨h1,h2,h3,h4⟩:=hR.ok.sf.tb l b h
   exact⟨⟨by omega,h1.2⟩,h2,h3,h4.of_eq (hp.block b h1.1 (htn l b h))⟩
  .obtain⟨h1,h2,h3,h4⟩:=hR.ok.sf.zc b h
   refine⟨⟨h1.1,by omega,h1.2.2⟩,h2,h3,?_⟩
   by_cases hb:E.Z b
   .exact(hp.sim b hb).2
   exact h4.of_eq (hp.block b h1.2.1 hb)
  refine(hR.ok.sf.zs b h).trans ?_
  by_cases hb:E.Z b
  .exact(hp.sim b hb).1
  exact .of_eq (hp.block b (hR.ok.sf.zc b h).1.2.1 hb)
 exact gU hk (λb c h'=>hp.block b (hR.ok.rb o b c h').1 (hrn o b c h')) (λ_ _ _ h=>h) (hR.obs o x h)
theorem B7 {arr:Array Value} {ty':TypeId} {fz:Nat×Nat} (h:w.heap[b]?=some (.cells arr ty' fz)):w.cell? ⟨b,k,none⟩=arr[k]?:=by
 simp[World.cell?,h]
theorem Kp {vt:TypeId} {arr:Array Value} {fz:Nat×Nat} [ht:TyN P t 1] (hu:u.cells= #[u]) (h1:u.oneCell'=true) (hh:w.heap[b]?=some (.cells arr vt fz)) (hf:fz=(0,0)\/arr.size<=fz.1) (hk:k<arr.size):
 (Instr.storeAt t (.pointer (some ⟨b,k,none⟩)) u).run P w= .ok () (w.setRow b (arr.setIfInBounds k u)):=by
 obtain⟨i,hi,hn⟩:=ht.n
 have hadd:(⟨b,k,none⟩:Addr).add 0=⟨b,k,none⟩:=by unfold Addr.add;split<;>simp_all
 have hcell:w.cell? ⟨b,k,none⟩=some arr[k]:=by simp[World.cell?,hh,hk]
 have hfro:w.frozen? ⟨b,k,none⟩=false:=by
  rcases hf with rfl|hf
  .grind[World.frozen?]
  grind[World.frozen?]
 have hst:(store ((⟨b,k,none⟩:Addr).add 0) u).run P w= .ok () (w.setRow b (arr.setIfInBounds k u)):=by
  rw[hadd,run_store P w _ u _ h1,hcell]
  simp[hfro,setCell_eq_setRow w b k arr vt fz u hh]
 simp_all[Instr.storeAt,Instr.sureAddr,storeVar,fm,storeCells]
theorem stz {e:List D} {xd:D} {c:C} [ht:TyN P t 1] (hx:opT sl x= .v (.c (.zq e j))) (hy:opT sl y= .v (.c c)) (hc:e[j]?=some xd) (hl:zF xd c=true):AWO P N ⟨none,.store t x y,ty,ps,af,gd⟩ ⟨sl,ob,nx⟩ ⟨sl,ob,nx⟩:=by
 intro cx E a w hR
 have h1:=hR.op x;rw[hx] at h1
 have h2:=hR.op y;rw[hy] at h2
 obtain⟨b,k,hu,hb,hrs⟩:=h1
 obtain⟨u,hcell,hud⟩:=N0 hrs hc
 have hsim:Oc u (a.eval y)/\(a.eval y).cells= #[a.eval y]/\(a.eval y).oneCell'=true:=by
  cases xd with
  |i kd n=>
   cases c with
   |d g z=>
    cases z with
    |i kd' n'=>
     simp[zF] at hl;subst hl
     have h2:a.eval y= .int kd n':=by simpa [cvT,cvV,cvC,rdD] using h2
     rw[rsD] at hud
     obtain⟨m,rfl⟩:=hud
     rw[h2];exact⟨.inr (.inl ⟨_,_,_,rfl,rfl⟩),rfl,rfl⟩
    |_=>grind[zF]
   |_=>grind[zF]
  |b n=>
   cases c with
   |d g z=>
    cases z with
    |b n'=>
     have h2:a.eval y= .bool n':=by simpa [cvT,cvV,cvC,rdD] using h2
     rw[rsD] at hud
     obtain⟨m,rfl⟩:=hud
     rw[h2];exact⟨.inr (.inr (.inl ⟨_,_,rfl,rfl⟩)),rfl,rfl⟩
    |_=>grind[zF]
   |_=>grind[zF]
  |str n=>
   cases c with
   |d g z=>
    cases z with
    |str n'=>
     have h2:a.eval y= .string n':=by simpa [cvT,cvV,cvC,rdD] using h2
     rw[rsD] at hud
     obtain⟨m,rfl⟩:=hud
     rw[h2];exact⟨.inr (.inr (.inr ⟨_,_,rfl,rfl⟩)),rfl,rfl⟩
    |_=>grind[zF]
   |_=>grind[zF]
  |l xs=>simp_all[zF]
  |k A n c'=>simp_all[zF]
 obtain⟨hs1,hs2,hs3⟩:=hsim
 obtain⟨arr,vt,fz,hh,hfz⟩:=(hR.ok.sf.zb b hb).2.2.2
 have hlt:k+j<arr.size:=by
  rw[B7 hh] at hcell
  rcases aao (k+j) arr.size with h|h
  .exact h
  simp_all
 have hrun:=Kp (P:=P) (t:=t) (b:=b) (k:=k+j) (u:=a.eval y) (w:=w) hs2 hs3 hh hfz hlt
 unfold Oper.wp
 simp only[execOp,hu,Sem.run_bind,hrun,Result.andThen_ok,Sem.run_pure,Oper.upon_skip,Act.put]
 refine⟨E,Vv hR ⟨rfl,rfl,rfl,by simp,λk' _ hk'=>ea _ _ _ _ (λe=>hk' (e▸hb)),λb' hb'=>?_⟩⟩
 by_cases hbb:b'=b
 .subst hbb
  have hsr:(w.setRow b' (arr.setIfInBounds (k+j) (a.eval y))).heap[b']?=some (.cells (arr.setIfInBounds (k+j) (a.eval y)) vt fz):=setRow_heap w b' arr _ vt fz hh
  refine⟨λi v hv=>?_,_,_,_,hsr,by simp_all⟩
  rw[B7 hh] at hv hcell
  rw[B7 hsr]
  by_cases hi:i=k+j
  .simp_all
  refine⟨v,?_,.inl rfl⟩
  grind
 exact⟨.of_eq (ea _ _ _ _ hbb),(hR.ok.sf.zb b' hb').2.2.2.of_eq (ea _ _ _ _ hbb)⟩
def C.hasR (l:Nat):C->Bool
 | .r k _=>d0 k l
 |_=>false
def Lm (l:Nat):List C->Bool
 |[]=>false
 |c::cs=>c.hasR l||Lm l cs
def V.hasR (l:Nat):V->Bool
 | .c x=>x.hasR l
 | .agg xs=>Lm l xs
def Jm (l:Nat):List V->Bool
 |[]=>false
 |v::vs=>v.hasR l||Jm l vs
def T.hasR (l:Nat):T->Bool
 | .v x=>x.hasR l
 | .tup xs=>Jm l xs
 | .any=>false
def CP (l:Nat):Lab->Option Lab
 |[]=>some []
 |(k,t)::r=>match CP l r with
  |some r'=>match t.hasR l with
   |true=>some ((k,.any)::r')
   |false=>some ((k,t)::r')
  |none=>none
theorem K9 {l:Nat}:∀{sl sl':Lab},CP l sl=some sl'->∀k,gt sl' k= .any\/(gt sl' k=gt sl k/\(gt sl k).hasR l=false)
 |[],sl',h,k=>by simp[CP] at h;subst h;exact .inl rfl
 |(j,t)::r,sl',h,k=>by
  simp only[CP] at h
  split at h
  .rename_i r' h1
   have ih:=K9 h1 k
   split at h
   .simp at h;subst h
    by_cases hj:j=k
    .subst hj;left;rw[d4]
    rw[di _ _ hj,di _ _ hj];exact ih
   rename_i ht
   simp at h;subst h
   by_cases hj:j=k
   .subst hj;right;rw[d4,d4];exact⟨rfl,ht⟩
   rw[di _ _ hj,di _ _ hj];exact ih
  cases h
structure KeepsR (l:Nat) (E:Env) (w:World) (E':Env) (w':World):Prop where
 r:∀o x,E.r o=some x->E'.r o=some x
 H:∀g b,E.H g b->E'.H g b
 heap:∀g b,E.H g b->w'.heap[b]?=w.heap[b]?
 T:∀k b,k≠l->E.T k b->E'.T k b/\w'.heap[b]?=w.heap[b]?
 Z:∀b,E.Z b->E'.Z b/\sv w w' b
 n:E'.n=E.n
end
def xo (ns:List Int):ByteArray:=ns.foldl (λr n=>r.push (UInt8.ofNat n.toNat)) ByteArray.empty
section
variable {P:Program} {N:Nat} {d:Tmp} {x y:Operand} {ty:TypeId} {ps:String} {af:Array Edge} {gd:Option (Nat×Bool)} {sl:Lab} {ob:Laa} {nx:Nat}
theorem P6 {w:World} {F:Nat->Prop} {b:Nat}:∀{xs:List Int} {k:Nat},rdLL w F (xs.map eU8) b k->∀(j:Nat) (u:Value),(xs.map (Value.int .u8))[j]?=some u->w.cell? ⟨b,k+j,none⟩=some u
 |[],k,_,j,u,h=>by simp at h
 |n::xs,k,h,j,u,hj=>by
  rw[aaB,rdLL] at h
  obtain⟨h1,h2⟩:=h
  simp only[eU8,rdL,rdD] at h1
  obtain⟨⟨v,hc,rfl⟩,_⟩:=h1
  cases j with
  |zero=>simp_all
  |succ j=>
   have:=P6 h2 j u (by simp_all)
   rwa [show k+(eU8 n).length+j=k+(j+1) from by simp[eU8];omega] at this
theorem X8 {F:Nat->Prop} {A:Option Addr} {xs:List Int} {c:Nat} (h:xs=[]\/∃b off,A=some ⟨b,off,none⟩/\rdLL w F (xs.map eU8) b off):(Conv.bytesToString (.slice A xs.length c)).run P w= .ok (.string (xo xs)) w:=by
 cases A with
 |none=>
  rcases h with rfl|⟨b,off,h,_⟩
  .rfl
  cases h
 |some a=>
  refine run_bytesToString w a xs.length c xs ?_
  rcases h with rfl|⟨b,off,h,hr⟩
  .rfl
  cases h
  have:=lu (P:=P) (b:=b) (k:=off) (w:=w) (xs.map (Value.int .u8)) 0 #[] (λj u hj=>by rw[aaj];exact P6 hr j u hj)
  simpa [loadCells] using this
theorem n_bts {e:TypeId} {xs:List Int} [hs:eB P t e sz by_] [he:TyU P e (.int .u8)] [hd:TyU P t' .string]:
 AWN P ⟨some d,.convert t t' x,ty,ps,af,gd⟩ [(x,.v (.c (.d g (.l (xs.map eU8)))))] [] (tS (xo xs)) []:=
 cM λE ac w hn _=>by
  have h:=hn x _ (.head _)
  simp only[cvT,cvV,cvC,rdD] at h
  obtain⟨A,c,hu,_,h⟩:=h
  rw[aay] at hu
  refine⟨.string (xo xs),?_,by rfl⟩
  have:=X8 (P:=P) (w:=w) (F:=E.H g) (A:=A) (xs:=xs) (c:=c) (by
   grind)
  simp only[execOp,hu,Sem.run_bind,run_convert_bytes_string w t t' e A xs.length c hs.u he.h hd.h,this,Result.andThen_ok,Sem.run_pure]
theorem bt1 {e:TypeId} {xs:List Int} [eB P t e sz by_] [TyU P e (.int .u8)] [TyU P t' .string] (hx:opT sl x= .v (.c (.d g (.l (xs.map eU8))))) (hN:nlt d N=true):
 NS0 P N ⟨some d,.convert t t' x,ty,ps,af,gd⟩ sl ob nx d (tS (xo xs)) ⟨d,[(x,.v (.c (.d g (.l (xs.map eU8)))))],[],tS (xo xs),[]⟩:=dT (st:=⟨sl,ob,nx⟩) n_bts rfl hN ⟨hx,trivial⟩ trivial rfl
end
structure QD (up:Laa) (E:Env) (w:World) (E':Env) (w':World):Prop where
 r:∀o x,E.r o=some x->E'.r o=some x
 F:∀b,E.F b->E'.F b
 G:∀b,E.G b->E'.G b
 F':∀b,E'.F b->E.F b\/w.heap.size<=b
 heap:∀b,b<w.heap.size->(∀l ob c,(l,ob)∈up->E.r l≠some (b,c))->w'.heap[b]?=w.heap[b]?
 own:∀l ob b c,(l,ob)∈up->E.r l=some (b,c)->¬E.F b
 T:E'.T=E.T
 Z:E'.Z=E.Z
 n:E'.n=E.n
theorem QD.of_ext (x:Ext E w E' w'):QD [] E w E' w':=⟨x.r,x.F,x.G,x.F',λb h _=>x.heap b h,λ_ _ _ _ h=>(by cases h),x.T,x.Z,x.n⟩
theorem lf.of_extW {cx:Cx} {up:Laa} (ok:dJ cx E w) (x:QD up E w E' w'):lf E w E' w':=by
 have hF:∀b,E.F b->w'.heap[b]?=w.heap[b]?:=λb h=>x.heap b (ok.fb b h) (λl ob c hm hr=>x.own l ob b c hm hr h)
 refine⟨x.r,λg b h=>by cases g;exact x.F b h;exact x.G b h,λg b h=>by cases g;exact hF b h;exact hF b (ok.gf b h),λl b h=>⟨by rw[x.T];exact h,x.heap b (ok.sf.tb l b h).1.1 (λl' ob c _ hr=>(ok.sf.tb l b h).2.2.1 l' c hr)⟩,
  λb h=>⟨by rw[x.Z];exact h,.of_eq (x.heap b (ok.sf.zb b h).1.2.1 (λl' ob c _ hr=>(ok.sf.zb b h).2.2.1 l' c hr))⟩,x.n⟩
def AWX (P:Program) (o:Oper) (needs:List (Operand×T)) (nob:Laa) (out:T) (nw up:Laa):Prop:=
 ∀(cx:Cx) (E:Env) (a:Act) (w:World),dJ cx E w->(∀x t,(x,t)∈needs->cvT E w t (a.eval x))->(∀l ob,(l,ob)∈nob->dm E w l ob)->
  (∀l ob,(l,ob)∈nw->E.r l=none/\rsv l=false)->
  o.wp P a w (λa' w'=>∃v E',a'=a.put o.dst v/\dJ cx E' w'/\QD up E w E' w'/\cvT E' w' out v/\(∀l ob,(l,ob)∈nw->dm E' w' l ob)/\(∀l ob,(l,ob)∈up->dm E' w' l ob)/\
   (∀l x,E'.r l=some x->E.r l=some x\/∃ob,(l,ob)∈nw)) (λ_ _ _=>False)
theorem Em {o:Oper} {needs:List (Operand×T)} (h:AWN P o needs nob out nw):AWX P o needs nob out nw []:=by
 intro cx E a w ok hn hb hf
 refine Oper.wp_mono ?_ (h cx E a w ok hn hb hf)
 rintro a' w' ⟨v,E',h1,h2,h3,h4,h5,h6⟩
 exact⟨v,E',h1,h2,.of_ext h3,h4,h5,(λ_ _ h=>by cases h),h6⟩
theorem QI {d:Tmp} {o:Nat} {x0:Ob} 
 (hF:FnW P f x0.loc ts' y res) (hlen:ts.length=args.length) (hfx:x0.free=true) (hfy:y.free=true) (ha:CY [] o ts=some (ts',eqs)) (he:Eqs eqs) (hi:Fe nx res=some (out,nw,n)):
 AWX P ⟨some d,.call ⟨.value (.func f),args.toArray,tys⟩,ty,ps,af,gd⟩ (args.zip ts) [(o,x0)] out nw [(o,y)]:=by
 intro cx E a w ok hn hb hfr
 obtain⟨nob,hnob⟩:∃nob:Laa,nob=[]:=⟨_,rfl⟩
 rw[<-hnob] at ha
 have hob:∀l x,go nob l=some x->dm E w l x:=λl x h=>by subst hnob;cases h
 have hx0:=hb o x0 (by simp)
 obtain⟨b,c0,hr,hbF⟩:∃b c0,E.r o=some (b,c0)/\¬E.F b:=by
  cases x0 with
  |rown ty sz els g=>exact absurd hfx aa9
  |abs l y=>exact absurd hfx aa9
  |var t cs=>obtain⟨b,c,arr,h1,h2,h3,h4⟩:=hx0;simp_all
  |row t sz els g m=>
   obtain⟨b,c,arr,h1,h2,h3,h4,h5,h6,h7,h8,h9⟩:=hx0
   have hm:m=true:=hfx
   simp_all
 have hbC:¬mM E nob b:=by
  rintro(h|⟨l,x,c,h1,h2⟩)
  .exact hbF h
  subst hnob;cases h1
 have hFb:∀b,mM E nob b->b<w.heap.size:=by
  rintro b (h|⟨l,x,c,h1,h2⟩)
  .exact ok.fb b h
  exact(ok.rb l b c h2).1
 have hbs0:=(ok.rb o b c0 hr).1
 have hA:=Fo (a:=a) ok hob hr ha he hlen hn
 have hX:dm (E0 b c0 (mM E nob)) w 200 x0.loc:=by
  have hl:=Ig ok hfx hx0
  have hnoG:∀E2:Env,(∀k,E.F k->E2.F k)->E2.r 200=some (b,c0)->¬E2.F b->dm E2 w 200 x0.loc:=by
   intro E2 h1 h2 h3
   cases x0 with
   |rown ty sz els g=>exact absurd hfx aa9
   |abs l y=>exact absurd hfx aa9
   |var t cs=>
    obtain⟨b',c',arr,k1,k2,k3,k4⟩:=hl
    rw[hr] at k1;cases k1
    refine⟨b,c0,arr,h2,k2,?_,h3⟩
    have key:∀(cs:List C) (us:Lae),cs.all C.free=true->CV E w (cs.map C.loc) us->CV E2 w (cs.map C.loc) us:=by
     intro cs
     induction cs with
     |nil=>
      intro us _ h
      cases us with
      |nil=>trivial
      |cons _ _=>exact h.elim
     |cons c cs ih=>
      intro us hf h
      simp only[aaK,hV] at hf
      cases us with
      |nil=>exact h.elim
      |cons u us=>
       refine⟨?_,ih us hf.2 h.2⟩
       have h5:=h.1
       cases c with
       |d g y=>exact cW (λ_ _=>rfl) h1 _ _ h5
       |nil=>exact h5
       |fn f=>exact h5
       |any=>trivial
       |_=>simp[C.free] at hf
    exact key cs _ hfx k3
   |row t sz els g m=>
    obtain⟨b',c',arr,k1,k2,k3,k4,k5,k6,k7,k8,k9⟩:=hl
    rw[hr] at k1;cases k1
    have hm:m=true:=hfx
    subst hm
    exact⟨b,c0,arr,h2,k2,k3,k4,k5,k6,cX (λ_ _=>rfl) h1 rfl _ _ k7,λ_=>h3,λh=>by cases h⟩
  exact hnoG _ (λk hk=>.inl hk) (by simp[E0]) hbC
 have hc:=hF.calls (mM E nob) w (args.map a.eval).toArray b c0 hFb hbs0 ok.tabs (ok.ntab hr) hX oaa
 have hent:=hF.enters (args.map a.eval).toArray w
 unfold Oper.wp
 have hrun:(execOp a.eval ⟨some d,.call ⟨.value (.func f),args.toArray,tys⟩,ty,ps,af,gd⟩).run P w= .ok (.enter f (args.map a.eval).toArray) w:=by
  simp only[execOp,resolve,Act.eval,Deferred.ofValue,Sem.run_bind,Sem.run_pure,Result.andThen_ok,invoke]
  simpa using hent
 rw[hrun,Oper.upon_enter]
 refine hc.mono ?_
 rintro e w' ⟨v,G,bs,rfl,hpast,hG2,hres,hnd,hY⟩
 have hbs:=JZ hres
 have hlab:∀l,nx<=l->l<nx+bs.length->E.r l=none/\rsv l=false:=by
  have himp:=yV (E:=⟨λo=>bs[o-nx]?,G,G,λ_ _=>False,λ_=>False,λ_=>False⟩) (λ_ h=>h) (λb _ h=>h) hi hres (λi p hi=>by simp_all)
  intro l h1 h2
  obtain⟨x,hx⟩:=himp.2.2.2 l h1 (by rw[himp.2.1];exact h2)
  exact hfr l x hx
 let E':Env:=⟨λl=>if nx<=l/\l<nx+bs.length then bs[l-nx]? else E.r l,λk=>E.F k\/G k,λk=>E.G k\/G k,E.T,E.Z,E.n⟩
 have hsz:=hpast.size
 have hws:=ok.size
 have hold:∀l p,E.r l=some p->E'.r l=some p:=λl p h=>by
  grind
 have hnew:∀l b c,E'.r l=some (b,c)->(nx<=l/\l<nx+bs.length/\bs[l-nx]?=some (b,c))\/(E.r l=some (b,c)):=by
  intro l b c h
  have h:(if nx<=l/\l<nx+bs.length then bs[l-nx]? else E.r l)=some (b,c):=h
  split at h
  .simp_all
  exact .inr h
 have hheap:∀k,k<w.heap.size->k≠b->w'.heap[k]?=w.heap[k]?:=λk hk hne=>hpast.block k hk hne
 have hHb:∀g k,E.H g k->k≠b/\k<w.heap.size:=λg k hk=>⟨λe=>by subst e;cases g;exact hbF hk;exact hbF (ok.gf _ hk),ok.hb hk⟩
 have ok':dJ cx E' w':=by
  refine⟨λk h=>?_,λk h=>?_,λk h=>?_,λl k c h=>?_,λl l' k c c' h h'=>?_,by rw[hpast.os];exact ok.os,by rw[hpast.tape];exact ok.tape,by rw[hpast.output];exact ok.output,by omega,λk h hW=>?_,λl p hv h=>?_,λk h=>?_,
   λk h h'=>h.elim (λh=>(ok.gc k h h').of_eq (hheap k (hHb false k h).2 (hHb false k h).1)) (λh=>(hG2 k h).2.2),
   ok.sf.turn hr rfl rfl (λk h=>h.elim .inl (λh=>.inr (hG2 k h).1)) (λl k c h=>by
    grind) hsz hheap⟩
  .rcases h with h|h
   .have:=ok.fb k h;omega
   simp_all
  .rcases h with h|h
   .exact .inl (ok.gf k h)
   grind
  .rcases h with h|h
   .exact ok.gn k h
   grind
  .rcases hnew l k c h with⟨_,_,h⟩|h
   .grind
   have:=ok.rb l k c h;grind
  .rcases hnew l k c h with⟨h1,h2,h3⟩|h3<;>rcases hnew l' k c' h' with⟨k1,k2,k3⟩|k3
   .have hi:l-nx<bs.length:=by omega
    have hj:l'-nx<bs.length:=by omega
    rcases abr (l-nx) (l'-nx) with hlt|heq|hlt
    .exfalso
     have:=aaG.1 hnd (l-nx) (l'-nx) (by simp_all) (by simp_all) hlt
     simp_all
    .omega
    exfalso
    have:=aaG.1 hnd (l'-nx) (l-nx) (by simp_all) (by simp_all) hlt
    simp_all
   .have h5:=hbs _ (aab h3);have h6:=ok.rb l' k c' k3;omega
   .have h5:=hbs _ (aab k3);have h6:=ok.rb l k c h3;omega
   exact ok.inj l l' k c c' h3 k3
  .have hkb:k≠b:=λe=>by
    subst e
    rcases(ok.rb o k c0 hr).2 with h'|h'
    .omega
    simp_all
   rw[hheap k oaa hkb];exact ok.block k h hW
  .rcases hnew l p.1 p.2 h with⟨h1,h2,_⟩|h
   .rw[rJ (hlab l h1 h2).2] at hv;cases hv
   exact ok.pin l p hv h
  rcases h with h|h
  .exact ok.ff k h
  grind
 have himp:=yV (E:=E') (G:=G) (base:=w.heap.size) (λb h=>.inr h) (λb hb hng hF=>by
  rcases hF with h|h
  .have:=ok.fb b h;omega
  simp_all) hi hres (λi p hi=>by
   grind)
 refine⟨v,E',rfl,ok',⟨hold,λk h=>.inl h,λk h=>.inl h,λk h=>h.elim .inl (λh=>.inr (hG2 k h).1),λk hk hne=>hheap k hk (λe=>by simp_all),λl ob k c hm hl=>?_,rfl,rfl,rfl⟩,himp.1,λl x hm=>(himp.2.2.1 l x hm).1,λl x hm=>?_,λl p h=>?_⟩
 .grind
 .simp at hm;obtain⟨rfl,rfl⟩:=hm
  refine Al hfy (λk c h=>?_) (λg k h=>?_) (λ_ _ _=>rfl) (λ_ _ _=>rfl) (λk c h hn hh=>?_) hY
  .simp[E1] at h;grind
  .cases g with
   |false=>
    rcases h with h|h
    .rcases h with h|⟨l,x,c,h1,h2⟩
     .exact .inl h
     subst hnob;cases h1
    exact .inr h
   |true=>exact .inr h
  simp[E1] at h;grind
 rcases hnew l p.1 p.2 h with⟨h1,h2,_⟩|h
 .obtain⟨x,hx⟩:=himp.2.2.2 l h1 (by rw[himp.2.1];exact h2);grind
 simp_all
def Ob.hasO (o:Nat):Ob->Bool
 | .var _ cs=>CR o cs
 | .row _ _ _ _ _=>false
 | .rown _ _ _ _=>false
 | .abs _ _=>false
structure tA (up:Laa) (kl:Option Nat) (E:Env) (w:World) (E':Env) (w':World):Prop where
 r:∀o x,kl≠some o->E.r o=some x->E'.r o=some x
 F:∀b,E.F b->E'.F b
 G:∀b,E.G b->E'.G b
 F':∀b,E'.F b->E.F b\/w.heap.size<=b\/∀l c,kl≠some l->E.r l≠some (b,c)
 heap:∀b,b<w.heap.size->(∀l ob c,(l,ob)∈up->E.r l≠some (b,c))->(∀l c,kl=some l->E.r l≠some (b,c))->w'.heap[b]?=w.heap[b]?
 own:∀l ob b c,(l,ob)∈up->E.r l=some (b,c)->¬E.F b
 ownk:∀l b c,kl=some l->E.r l=some (b,c)->¬E.F b
 T:E'.T=E.T
 Z:E'.Z=E.Z
 n:E'.n=E.n
theorem tA.of_extW {up:Laa} (x:QD up E w E' w'):tA up none E w E' w':=
 ⟨λo y _ h=>x.r o y h,x.F,x.G,(λb h=>(x.F' b h).elim .inl (λh=>.inr (.inl h))),λb h h' _=>x.heap b h h',x.own,(λ_ _ _ h=>by cases h),x.T,x.Z,x.n⟩
section
variable {cx:Cx} {E E':Env} {w w':World} {up:Laa} {kl:Option Nat}
theorem tA.hF (ok:dJ cx E w) (x:tA up kl E w E' w') (b:Nat) (h:E.F b):w'.heap[b]?=w.heap[b]?:=
 x.heap b (ok.fb b h) (λl ob c hm hr=>x.own l ob b c hm hr h) (λl c hl hr=>x.ownk l b c hl hr h)
theorem tA.hH (ok:dJ cx E w) (x:tA up kl E w E' w') (g:Bool) (b:Nat) (h:E.H g b):w'.heap[b]?=w.heap[b]?:=by
 cases g
 .exact x.hF ok b h
 exact x.hF ok b (ok.gf b h)
theorem tA.H (x:tA up kl E w E' w') (g:Bool) (b:Nat) (h:E.H g b):E'.H g b:=by
 cases g
 .exact x.F b h
 exact x.G b h
theorem tA.hT (ok:dJ cx E w) (x:tA up kl E w E' w') (l b:Nat) (h:E.T l b):E'.T l b/\w'.heap[b]?=w.heap[b]?:=
 ⟨by rw[x.T];exact h,x.heap b (ok.sf.tb l b h).1.1 (λl' ob c _ hr=>(ok.sf.tb l b h).2.2.1 l' c hr) (λl' c _ hr=>(ok.sf.tb l b h).2.2.1 l' c hr)⟩
theorem tA.hZ (ok:dJ cx E w) (x:tA up kl E w E' w') (b:Nat) (h:E.Z b):E'.Z b/\sv w w' b:=
 ⟨by rw[x.Z];exact h,.of_eq (x.heap b (ok.sf.zb b h).1.2.1 (λl' ob c _ hr=>(ok.sf.zb b h).2.2.1 l' c hr) (λl' c _ hr=>(ok.sf.zb b h).2.2.1 l' c hr))⟩
theorem tA.keeps (ok:dJ cx E w) (x:tA up none E w E' w'):lf E w E' w':=⟨λo y h=>x.r o y (by simp) h,x.H,x.hH ok,x.hT ok,x.hZ ok,x.n⟩
theorem tA.but {o:Nat} (ok:dJ cx E w) (x:tA up (some o) E w E' w'):og o E w E' w':=⟨λl y hl h=>x.r l y (by grind) h,x.H,x.hH ok,x.hT ok,x.hZ ok,λl _=>by rw[x.n]⟩
theorem Ex (ok:dJ cx E w) (x:tA up kl E w E' w') {t:T} (hf:∀o,kl=some o->t.has o=false) (h:cvT E w t u):cvT E' w' t u:=by
 cases kl with
 |none=>exact kT (x.keeps ok) h
 |some o=>exact Ja (x.but ok) (hf o rfl) h
theorem WI (ok:dJ cx E w) (x:tA up kl E w E' w') {us:Lae} (hf:∀o,kl=some o->CR o cs=false) (h:CV E w cs us):CV E' w' cs us:=by
 cases kl with
 |none=>exact sq (x.keeps ok) h
 |some o=>exact M7 (x.but ok) (hf o rfl) h
theorem NV (ok:dJ cx E w) (x:tA up kl E w E' w') {o:Nat} {ob:Ob} (hno:∀ob',(o,ob')∉up) (hk:kl≠some o) (hh:∀d,kl=some d->ob.hasO d=false) (h:dm E w o ob):dm E' w' o ob:=by
 have hb:∀b c,E.r o=some (b,c)->w'.heap[b]?=w.heap[b]?:=λb c hr=>
  x.heap b (ok.rb o b c hr).1 (λl ob' c' hm hr'=>by have:=ok.inj _ _ _ _ _ hr hr';simp_all) (λl c' hl hr'=>by have:=ok.inj _ _ _ _ _ hr hr';simp_all)
 have hF:∀b c,E.r o=some (b,c)->¬E.F b->¬E'.F b:=λb c hr hn hF=>(x.F' b hF).elim hn (λh=>h.elim (λhb=>by have:=(ok.rb o b c hr).1;omega) (λhb=>hb o c hk hr))
 cases ob with
 |var ty cs=>
  obtain⟨b,c,arr,hr,hh',hc,hf⟩:=h
  exact⟨b,c,arr,x.r _ _ hk hr,(hb b c hr).trans hh',WI ok x hh hc,hF b c hr hf⟩
 |row ty sz els g m=>
  obtain⟨b,c,arr,hr,hh',h1,h2,h3,h4,h5,h6,h7⟩:=h
  exact⟨b,c,arr,x.r _ _ hk hr,(hb b c hr).trans hh',h1,h2,h3,h4,cX (x.hH ok g) (x.H g) (hb b c hr) _ _ h5,λhm=>hF b c hr (h6 hm),λhm=>⟨x.H false b (h7 hm).1,λhg=>x.H true b ((h7 hm).2 hg)⟩⟩
 |rown ty sz els g=>
  rcases h with⟨h0,h1⟩|⟨h0,b,c,arr,hr,hh',h1,h2,h3,h4,h5,h6⟩
  .exact .inl ⟨by rw[x.n];exact h0,h1⟩
  exact .inr ⟨by rw[x.n];exact h0,b,c,arr,x.r _ _ hk hr,(hb b c hr).trans hh',h1,h2,h3,h4,cX (x.hH ok g) (x.H g) (hb b c hr) _ _ h5,hF b c hr h6⟩
 |abs l y=>
  rcases h with⟨h0,h1⟩|⟨h0,b,c,hr,h1,h2⟩
  .exact .inl ⟨by rw[x.n];exact h0,h1⟩
  exact .inr ⟨by rw[x.n];exact h0,b,c,x.r _ _ hk hr,y.st _ _ _ _ _ _ h1 (λk hk=>(x.hT ok l k hk).1) (hb b c hr) (λk hk=>(x.hT ok l k hk).2),hF b c hr h2⟩
end
def AWK (P:Program) (o:Oper) (needs:List (Operand×T)) (nob:Laa) (out:T) (nw up:Laa) (kl:Option Nat):Prop:=
 ∀(cx:Cx) (E:Env) (a:Act) (w:World),dJ cx E w->(∀x t,(x,t)∈needs->cvT E w t (a.eval x))->(∀l ob,(l,ob)∈nob->dm E w l ob)->
  (∀l ob,(l,ob)∈nw->E.r l=none/\rsv l=false)->
  o.wp P a w (λa' w'=>∃v E',a'=a.put o.dst v/\dJ cx E' w'/\tA up kl E w E' w'/\cvT E' w' out v/\(∀l ob,(l,ob)∈nw->dm E' w' l ob)/\(∀l ob,(l,ob)∈up->dm E' w' l ob)/\
   (∀l x,E'.r l=some x->E.r l=some x\/∃ob,(l,ob)∈nw)) (λ_ _ _=>False)
theorem vU {o:Oper} {needs:List (Operand×T)} {up:Laa} (h:AWX P o needs nob out nw up):AWK P o needs nob out nw up none:=by
 intro cx E a w ok hn hb hf
 refine Oper.wp_mono ?_ (h cx E a w ok hn hb hf)
 rintro a' w' ⟨v,E',h1,h2,h3,h4,h5,h6,h7⟩
 exact⟨v,E',h1,h2,.of_extW h3,h4,h5,h6,h7⟩
def WQ (d:Nat) (ob0:Laa) (k:Nat):Bool:=d0 k d||match go ob0 k with
 |some x=>x.hasO d
 |none=>false
def EC (d:Nat) (ob0:Laa):Laa->Option Laa
 |[]=>some []
 |(k,x)::r=>match EC d ob0 r,WQ d ob0 k with
  |some r',true=>some r'
  |some r',false=>some ((k,x)::r')
  |none,_=>none
def Fj:List Nat->Lab->Laa->Option (Lab×Laa)
 |[],sl,ob=>some (sl,ob)
 |d::ds,sl,ob=>match oO d sl,EC d ob ob with
  |some sl',some ob'=>Fj ds sl' ob'
  |_,_=>none
theorem ED {d:Nat} {ob0:Laa}:∀{ob ob':Laa},EC d ob0 ob=some ob'->∀{l:Nat} {x:Ob},go ob' l=some x->WQ d ob0 l=false/\go ob l=some x
 |[],ob',h,l,x,hl=>by simp[EC] at h;subst h;cases hl
 |(k,y)::r,ob',h,l,x,hl=>by
  simp only[EC] at h
  cases h1:EC d ob0 r with
  |none=>simp_all
  |some r'=>
   cases h2:WQ d ob0 k with
   |true=>
    simp[h1,h2] at h;subst h
    have ih:=ED h1 hl
    refine⟨ih.1,?_⟩
    rw[b7 _ _ (λe=>by simp_all)];exact ih.2
   |false=>
    simp[h1,h2] at h;subst h
    by_cases hk:k=l
    .subst hk;rw[cU] at hl ⊢;simp_all
    rw[b7 _ _ hk] at hl ⊢;exact ED h1 hl
theorem LF:∀{ds:List Nat} {sl sl':Lab} {ob ob':Laa},Fj ds sl ob=some (sl',ob')->
 (∀k,gt sl' k= .any\/(gt sl' k=gt sl k/\∀d∈ds,(gt sl k).has d=false))/\(∀l x,go ob' l=some x->go ob l=some x/\∀d∈ds,l≠d/\x.hasO d=false)
 |[],sl,sl',ob,ob',h=>by
  simp[Fj] at h;simp_all
 |d::ds,sl,sl',ob,ob',h=>by
  simp only[Fj] at h
  cases h1:oO d sl with
  |none=>simp_all
  |some sl1=>
   cases h2:EC d ob ob with
   |none=>simp_all
   |some ob1=>
    simp only[h1,h2] at h
    obtain⟨i1,i2⟩:=LF h
    refine⟨λk=>?_,λl x hl=>?_⟩
    .rcases i1 k with e|⟨e1,e2⟩
     .exact .inl e
     rcases xX h1 k with e|⟨e3,e4⟩
     .simp_all
     simp_all
    obtain⟨e1,e2⟩:=i2 l x hl
    obtain⟨e3,e4⟩:=ED h2 e1
    refine⟨e4,λd' hd'=>?_⟩
    rcases aae.1 hd' with rfl|hd'
    .simp only[WQ,e4,aaq] at e3
     exact⟨jD e3.1,e3.2⟩
    simp_all
structure Inx where
 x:Inf
 up:Laa
 kl:Option Nat
def TT (N:Nat) (o:Oper) (x:Inf):Prop:=(o.dst=some x.d/\x.d<N)\/(o.dst=none/\N<=x.d/\x.out= .any)
def NX (P:Program) (N:Nat) (o:Oper) (st st':St) (y:Inx):Prop:=
 AWK P o y.x.needs y.x.nob y.x.out y.x.nw y.up y.kl/\TT N o y.x/\Lk st.sl y.x.needs/\Lo st.ob y.x.nob/\Nw st.nx y.x.nw st'.nx/\st'=⟨(y.x.d,y.x.out)::st.sl,y.x.nw++(y.up++st.ob),st'.nx⟩
theorem LV {o:Oper} {st':St} {x:Inf} (h:NS P N o st st' x):NX P N o st st' ⟨x,[],none⟩:=by
 obtain⟨h1,h2,h3,h4,h5,h6,h7⟩:=h
 exact⟨vU (Em h1),.inl ⟨h2,h3⟩,h4,h5,h6,h7⟩
def DS2 (P:Program) (N:Nat) (ops:Array Oper) (o:Oper) (st st':St) (y:Inx):Prop:=
 (o.guard=none/\NX P N o st st' y)\/
 (∃j dj b z,o.guard=some (j,b)/\(ops[j]?).bind (·.dst)=some dj/\dj<N/\gt st.sl dj=tB b/\NX P N o st st' z/\y=⟨{z.x with needs:=(.tmp dj,tB b)::z.x.needs},z.up,z.kl⟩)\/
 (∃j dj b d,o.guard=some (j,b)/\(ops[j]?).bind (·.dst)=some dj/\dj<N/\noG b (gt st.sl dj)=true/\o.dst=some d/\d<N/\y=⟨⟨d,[(.tmp dj,gt st.sl dj)],[],.tup [],[]⟩,[],none⟩/\st'=⟨(d,.tup [])::st.sl,st.ob,st.nx⟩)
def obF (p:Nat->Bool):Nat->List Inx->Laa->Laa
 |_,[],acc=>acc
 |k,y::ys,acc=>obF p (k+1) ys (if p k then y.x.nw++(y.up++acc) else acc)
def qK (y:Inx) (l:Nat):Bool:=(y.x.nw.any λp=>d0 p.1 l)||(y.up.any λp=>d0 p.1 l)
theorem A5 {A B:Laa} (h:(A.any λp=>d0 p.1 l)=false):go (A++B) l=go B l:=by
 induction A with
 |nil=>rfl
 |cons p A ih=>
  simp only[abE,aaq] at h
  obtain⟨k,v⟩:=p
  rw[aaE,go,h.1]
  exact ih h.2
theorem yS {A B:Laa} (h:(A.any λp=>d0 p.1 l)=true):go (A++B) l=go A l:=by
 induction A with
 |nil=>simp at h
 |cons p A ih=>
  obtain⟨k,v⟩:=p
  rw[aaE,go,go]
  cases hk:d0 k l with
  |true=>rfl
  |false=>
   simp only[abE,hk,aaJ] at h
   exact ih h
theorem sh {p q:Nat->Bool} {l:Nat}:∀{ys:List Inx} {k:Nat} {A B:Laa},go A l=go B l->(∀j y,ys[j]?=some y->qK y l=true->p (k+j)=q (k+j))->go (obF p k ys A) l=go (obF q k ys B) l
 |[],_,_,_,h,_=>h
 |y::ys,k,A,B,h,ht=>by
  simp only[obF]
  refine sh ?_ (λj z hz hj=>by have:=ht (j+1) z (by simpa using hz) hj;rwa [show k+(j+1)=k+1+j from by omega] at this)
  cases hto:qK y l with
  |true=>
   have h0:=ht 0 y rfl hto
   rw[aaT] at h0
   rw[h0]
   split
   .by_cases hn:(y.x.nw.any λp=>d0 p.1 l)=true
    .rw[yS hn,yS hn]
    rw[A5 (A:=y.x.nw) (abh.2 hn),A5 (A:=y.x.nw) (abh.2 hn)]
    have hu:(y.up.any λp=>d0 p.1 l)=true:=by simp only[qK,aam] at hto;exact hto.resolve_left hn
    rw[yS hu,yS hu]
   exact h
  |false=>
   simp only[qK,aaq] at hto
   have e:∀X:Laa,go (y.x.nw++(y.up++X)) l=go X l:=λX=>by rw[A5 hto.1,A5 hto.2]
   split<;>split<;>(try simp only[e])<;>exact h
theorem Fv {p:Nat->Bool} {y:Inx}:∀{ys:List Inx} {k:Nat} {A:Laa},obF p k (ys++[y]) A=if p (k+ys.length) then y.x.nw++(y.up++obF p k ys A) else obF p k ys A
 |[],k,A=>by simp[obF]
 |z::ys,k,A=>by
  simp only[aaE,obF,aai]
  rw[Fv,show k+1+ys.length=k+(ys.length+1) from by omega]
theorem yc {p:Nat->Bool}:∀{ys:List Inx} {k n:Nat} {A:Laa},(∀j,p (k+j)=decide (j<n))->obF p k ys A=obF (λ_=>true) k (ys.take n) A
 |[],k,n,A,_=>by simp[obF]
 |y::ys,k,0,A,h=>by
  have h0:=h 0
  simp at h0
  simp only[obF,abD,h0]
  have:=yc (p:=p) (ys:=ys) (k:=k+1) (n:=0) (A:=A) (λj=>by have:=h (j+1);simp at this ⊢;rwa [show k+(j+1)=k+1+j from by omega] at this)
  simpa [obF] using this
 |y::ys,k,n+1,A,h=>by
  have h0:=h 0
  simp at h0
  simp only[obF,aaI,h0,if_true]
  exact yc (λj=>by have:=h (j+1);rw[show k+1+j=k+(j+1) from by omega,this];simp)
def obX (base:St) (ys:List Inx):Laa:=obF (λ_=>true) 0 ys base.ob
theorem U4 (base:St) (ys:List Inx) (y:Inx):obX base (ys++[y])=y.x.nw++(y.up++obX base ys):=by simp[obX,Fv]
def ia (ys:List Inx):List Inf:=ys.map (·.x)
def Ta (P:Program) (N:Nat) (ops:Array Oper) (base:St) (pre:List Inx) (o:Oper) (y:Inx):Prop:=
 (∀z t,(z,t)∈y.x.needs->opT (vN base (ia pre)) z=t)/\(∀l ob,(l,ob)∈y.x.nob->go (obX base pre) l=some ob)/\TT N o y.x/\
 ((o.guard=none/\AWK P o y.x.needs y.x.nob y.x.out y.x.nw y.up y.kl)\/
  (∃j dj b ys,o.guard=some (j,b)/\(ops[j]?).bind (·.dst)=some dj/\dj<N/\y.x.needs=(.tmp dj,tB b)::ys/\AWK P o ys y.x.nob y.x.out y.x.nw y.up y.kl)\/
  (∃j dj b t,o.guard=some (j,b)/\(ops[j]?).bind (·.dst)=some dj/\dj<N/\y.x.needs=[(.tmp dj,t)]/\noG b t=true/\y.x.out= .tup []/\y.x.nw=[]/\y.up=[]/\y.kl=none))
theorem Sm {ops:Array Oper} {base st1:St} {ys:List Inx} {o:Oper} {y:Inx} (hds:DS2 P N ops o st st1 y) (hsame:uK st1 st2) (h1:∀k,gt st.sl k=gt (vN base (ia ys)) k) (h2:st.ob=obX base ys) (h3:fX base.nx (ia ys) st.nx):
 Ta P N ops base ys o y/\(∀k,gt st2.sl k=gt (vN base (ia (ys++[y]))) k)/\st2.ob=obX base (ys++[y])/\fX base.nx (ia (ys++[y])) st2.nx:=by
 have hput:∀(out:T) (nw up:Laa) (n:Nat),y.x.out=out->y.x.nw=nw->y.up=up->st1=⟨(y.x.d,out)::st.sl,nw++(up++st.ob),n⟩->Nw st.nx nw n->(∀k,gt st2.sl k=gt (vN base (ia (ys++[y]))) k)/\st2.ob=obX base (ys++[y])/\fX base.nx (ia (ys++[y])) st2.nx:=by
  rintro out nw up n rfl rfl rfl rfl hnw
  refine⟨λk=>?_,?_,?_⟩
  .rw[<-hsame.1 k];simp only[ia,abb,aaB,abd];rw[zm]
   by_cases hk:y.x.d=k
   .rw[hk,d4,d4]
   rw[di _ _ hk,di _ _ hk];exact h1 k
  .rw[<-hsame.2.1,U4,h2]
  rw[<-hsame.2.2];simp only[ia,abb,aaB,abd];exact h3.snoc hnw
 rcases hds with⟨hg,k1,k2,k4,k5,k6,k7⟩|⟨j,dj,b,z,hg,hj,hdj,hb,⟨k1,k2,k4,k5,k6,k7⟩,rfl⟩|⟨j,dj,b,d,hg,hj,hdj,hb,hd,hN,rfl,rfl⟩
 .exact⟨⟨λz t hm=>by rw[<-s4 h1];exact Lk.mem k4 z t hm,λl' ob hm=>by rw[<-h2];exact Lo.mem k5 l' ob hm,k2,.inl ⟨hg,k1⟩⟩,hput _ _ _ _ rfl rfl rfl k7 k6⟩
 .refine⟨⟨λy' t hm=>?_,λl' ob hm=>by rw[<-h2];exact Lo.mem k5 l' ob hm,k2,.inr (.inl ⟨j,dj,b,z.x.needs,hg,hj,hdj,rfl,k1⟩)⟩,hput _ _ _ _ rfl rfl rfl k7 k6⟩
  rw[<-s4 h1]
  rcases aae.1 hm with e|hm
  .cases e;exact hb
  exact Lk.mem k4 y' t hm
 refine⟨⟨λy' t hm=>?_,by simp,.inl ⟨hd,hN⟩,.inr (.inr ⟨j,dj,b,_,hg,hj,hdj,rfl,hb,rfl,rfl,rfl,rfl⟩)⟩,hput (.tup []) [] [] st.nx rfl rfl rfl rfl rfl⟩
 rw[<-s4 h1]
 simp at hm;obtain⟨rfl,rfl⟩:=hm;rfl
def uR (y:Inx):List Nat:=y.x.nob.map (·.1)++(y.x.nw.map (·.1)++y.up.map (·.1))
def DL (ops:Array Oper):Bool:=
 (f4 ops.size).all λi=>match ops[i]? with
  |some o=>o.after.toList.all λe=>!Region.binds .any e||nlt e.on i
  |none=>false
def mJ (l:List Nat) (n:Nat):Bool:=l.any λk=>d0 k n
def at0 (seg:List Nat) (j:Nat):Nat:=seg.getD j 0
def AB (y:Inx) (d:Nat):Bool:=(y.x.needs.any λp=>p.2.has d)||mJ (uR y) d||(y.x.nob.any λp=>p.2.hasO d)
def ZU (ops:Array Oper) (seg:List Nat) (ys:List Inx):Bool:=
 (f4 ys.length).all λj=>match ys[j]? with
  |some z=>match z.kl with
   |none=>true
   |some d=>(f4 ys.length).all λi=>match ys[i]? with
    |some y=>d0 i j||!AB y d||anc ops ops.size (at0 seg j) (at0 seg i)
    |none=>false
  |none=>false
def BG (ops:Array Oper) (done seg:List Nat) (ys:List Inx):Bool:=
 sJ (ia ys)&&d0 seg.length ys.length&&oR (seg++done)&&(seg.all λi=>nlt i ops.size)&&
 ((f4 ys.length).all λi=>match ys[i]? with
  |some y=>
   ((jH y.x.needs).all λk=>match uX (ia ys) k with
    |none=>true
    |some j=>if nlt j i then anc ops ops.size (at0 seg i) (at0 seg j) else d0 i j||anc ops ops.size (at0 seg j) (at0 seg i))&&
   ((uR y).all λl=>(f4 ys.length).all λj=>match ys[j]? with
    |some z=>!qK z l||(if nlt j i then anc ops ops.size (at0 seg i) (at0 seg j) else d0 i j||anc ops ops.size (at0 seg j) (at0 seg i))
    |none=>false)
  |none=>false)&&
 ((f4 ops.size).all λj=>mJ done j||mJ seg j||seg.all λi=>anc ops ops.size j i)&&ZU ops seg ys
def GH (f:Nat->Nat) (ys:List Inx) (listed:Array Bool) (d:Nat):Prop:=∃j y,listed.getD (f j) false=true/\ys[j]?=some y/\y.kl=some d
structure QE (N:Nat) (cx:Cx) (base:St) (f:Nat->Nat) (ys:List Inx) (listed:Array Bool) (a:Act) (w:World) (E:Env):Prop where
 ok:dJ cx E w
 dom:∀l x,E.r l=some x->l<base.nx\/∃j y ob,listed.getD (f j) false=true/\ys[j]?=some y/\(l,ob)∈y.x.nw
 obs:∀l ob,go (obF (λj=>listed.getD (f j) false) 0 ys base.ob) l=some ob->(∀d,GH f ys listed d->l≠d/\ob.hasO d=false)->dm E w l ob
 out:∀j y,listed.getD (f j) false=true->ys[j]?=some y->(∀d,GH f ys listed d->y.x.out.has d=false)->cvT E w y.x.out (a.tmps.getD y.x.d undef)
 old:∀k,(∀j y,listed.getD (f j) false=true->ys[j]?=some y->y.x.d≠k)->(∀d,GH f ys listed d->(gt base.sl k).has d=false)->cvT E w (gt base.sl k) (a.tmps.getD k undef)
 dfr:a.defers=[]
 size:a.tmps.size=N
 td:∀l b,E.T l b->l<base.nx
theorem Rg {y:Inx} (h:qK y l=true) {X:Laa} {ob:Ob} (hg:go (y.x.nw++(y.up++X)) l=some ob):(l,ob)∈y.x.nw\/(l,ob)∈y.up:=by
 by_cases hn:(y.x.nw.any λp=>d0 p.1 l)=true
 .rw[yS hn] at hg;exact .inl (Aa hg)
 have hu:(y.up.any λp=>d0 p.1 l)=true:=by simp only[qK,aam] at h;exact h.resolve_left hn
 rw[A5 (abh.2 hn),yS hu] at hg;exact .inr (Aa hg)
theorem V9 {y:Inx} {ob:Ob} (h:(l,ob)∈y.up):qK y l=true:=by
 simp only[qK,aam,aaD]
 exact .inr ⟨(l,ob),h,by simp⟩
theorem Ox {y:Inx} (h:qK y l=true):l∈uR y:=by
 simp only[qK,aam,aaD] at h
 simp only[uR,aac,aa7]
 rcases h with⟨p,h1,h2⟩|⟨p,h1,h2⟩
 .exact .inr (.inl ⟨p,h1,aad h2⟩)
 exact .inr (.inr ⟨p,h1,aad h2⟩)
section
variable {P:Program} {N:Nat} {cx:Cx} {ops:Array Oper} {base:St} {f:Nat->Nat} {ys:List Inx} {Q:Exit->Act->World->Prop}
def unl (ops:Array Oper) (listed:Array Bool):Nat:=((f4 ops.size).filter λi=>!listed.getD i false).length
def xt (ops:Array Oper) (listed:Array Bool):Prop:=∀i o,ops[i]?=some o->listed.getD i false=true->∀e∈o.after,Region.binds .any e=true->listed.getD e.on false=true
theorem tv (hsz:listed.size=ops.size) (hio:i<ops.size) (hun:listed.getD i false=false):unl ops listed=unl ops (listed.setIfInBounds i true)+1:=by
 have hcount:∀(l:List Nat),l.Nodup->i∈l->(l.filter λk=>!listed.getD k false).length=(l.filter λk=>!(listed.setIfInBounds i true).getD k false).length+1:=by
  intro l
  induction l with
  |nil=>intro _ h;cases h
  |cons k l ihl=>
   intro hnd hm
   obtain⟨hk1,hk2⟩:=aaY.1 hnd
   by_cases hki:i=k
   .subst hki
    have hsame:(l.filter λk=>!listed.getD k false)=(l.filter λk=>!(listed.setIfInBounds i true).getD k false):=by
     apply abB
     intro z hz
     rw[cH oaa,if_neg (λe=>hk1 (by rw[e];exact hz))]
    rw[aaM (by simp only[aax];exact hun),aaN (by rw[cH oaa,if_pos rfl];simp),hsame,aai]
   have hml:i∈l:=by rcases aae.1 hm with e|e;exact absurd e hki;exact e
   have:=ihl hk2 hml
   have hgk:(listed.setIfInBounds i true).getD k false=listed.getD k false:=by rw[cH oaa,if_neg hki]
   cases hgd:listed.getD k false with
   |true=>rw[aaN (by simp only[hgd];simp),aaN (by simp only[hgk,hgd];simp)];exact this
   |false=>rw[aaM (by simp only[hgd];simp),aaM (by simp only[hgk,hgd];simp),aai,aai,this]
 exact hcount (f4 ops.size) abC (by simpa using hio)
theorem xC {o:Oper} (hsz:listed.size=ops.size) (hio:i<ops.size) (ho:ops[i]?=some o) (hd:∀e∈o.after,Region.binds .any e=true->listed.getD e.on false=true) (hcl:xt ops listed):xt ops (listed.setIfInBounds i true):=by
 intro j oj hj hdj e he hb
 rw[cH oaa]
 split
 .rfl
 rw[cH oaa] at hdj
 split at hdj
 .rename_i hij;subst hij;rw[ho] at hj;cases hj;exact hd e he hb
 exact hcl j oj hj hdj e he hb
def Edg (ops:Array Oper) (rk:Nat->Nat):Prop:=∀i o,ops[i]?=some o->∀e∈o.after,Region.binds .any e=true->e.on<ops.size/\rk e.on<rk i
theorem TX {ops:Array Oper} (hedge:∀i o,ops[i]?=some o->∀e∈o.after,Region.binds .any e=true->e.on<i):Edg ops (λi=>i):=λi o ho e he hb=>by
 have h:=hedge i o ho e he hb
 have hi:i<ops.size:=by
  rcases aao i ops.size with h|h
  .exact h
  rw[aaw h] at ho;cases ho
 exact⟨by omega,h⟩
theorem FA {rk:Nat->Nat} (hedge:Edg ops rk) (hsz:listed.size=ops.size) (hc:unl ops listed=n+1):Region.ready .any ops listed≠[]:=by
 intro h0
 have hex:∃i,i<ops.size/\listed.getD i false=false:=by
  have:((f4 ops.size).filter λi=>!listed.getD i false)≠[]:=λe=>by unfold unl at hc;rw[e] at hc;simp at hc
  obtain⟨i,hi⟩:=aby _ this
  simp only[abg,abi,aax] at hi
  exact⟨i,hi.1,hi.2⟩
 have hmin:∀n i,rk i<=n->i<ops.size->listed.getD i false=false->∃i,i∈Region.ready .any ops listed:=by
  intro n
  induction n using Nat.strongRecOn with
  |_ n ihn=>
   intro i hin his hif
   by_cases hd:∀e∈ops[i].after,Region.binds .any e=true->listed.getD e.on false=true
   .refine⟨i,mem_ready.2 ⟨?_,ops[i],aar his,hd⟩⟩
    rw[aaC,aar oaa] at hif ⊢
    simpa using hif
   simp only[Classical.not_forall] at hd
   obtain⟨e,he,hb,hne⟩:=hd
   have hlt:=hedge i ops[i] (aar his) e he hb
   exact ihn (rk e.on) oaa e.on (aah _) hlt.1 (by simpa using hne)
 obtain⟨i,h1,h2⟩:=hex
 obtain⟨j,hj⟩:=hmin (rk i) i (aah _) h1 h2
 rw[h0] at hj;cases hj
theorem mX (hsz:listed.size=ops.size) (hi:i∈Region.ready .any ops listed):i<ops.size/\listed.getD i false=false/\∃o,ops[i]?=some o/\∀e∈o.after,Region.binds .any e=true->listed.getD e.on false=true:=by
 obtain⟨h1,o,ho,hd⟩:=mem_ready.1 hi
 have hio:i<ops.size:=by
  rcases aao i ops.size with h|h
  .exact h
  rw[aaw h] at ho;cases ho
 refine⟨hio,?_,o,ho,hd⟩
 rw[aaC,aar oaa] at h1 ⊢
 simpa using h1
theorem zX (hcl:xt ops listed) (h:anc ops n i j=true) (hi:∃o,ops[i]?=some o/\∀e∈o.after,Region.binds .any e=true->listed.getD e.on false=true):listed.getD j false=true:=sB hcl n i j h hi
theorem KO (hsz:listed.size=ops.size) (hcl:xt ops listed) (h:anc ops n i j=true) (hi:listed.getD i false=true):listed.getD j false=true:=by
 have his:i<ops.size:=by
  rcases aao i ops.size with h|h
  .exact h
  rw[aaC,aaw oaa] at hi;cases hi
 exact sB hcl n i j h ⟨ops[i],aar his,hcl i _ (aar his) hi⟩
theorem PS {o:Oper} {x:Inf} (h:TT N o x) (hs:a.tmps.size=N) (v:Value):a.put o.dst v=a.put (some x.d) v:=by
 rcases h with⟨h,_⟩|⟨h,h2,_⟩
 .rw[h]
 rw[h]
 show a=a.put (some x.d) v
 unfold Act.put
 simp only
 rw[show a.tmps.setIfInBounds x.d v=a.tmps from abG oaa]
theorem Lj {d:Nat} {v:Value} (h:a.tmps.size<=d):(a.put (some d) v).tmps.getD k undef=a.tmps.getD k undef:=by
 unfold Act.put
 simp only
 rw[show a.tmps.setIfInBounds d v=a.tmps from abG h]
theorem Rb (hI:QE N cx base f ys listed a w E) (hdst:sJ (ia ys)=true) {y:Inx} (hx:ys[i]?=some y) (hil:f i<listed.size) (hinj:∀j,j<ys.length->f i=f j->i=j)
 (hun:listed.getD (f i) false=false) (hdN:y.x.d<N\/(N<=y.x.d/\y.x.out= .any)) (hord:∀l,qK y l=true->∀j z,ys[j]?=some z->qK z l=true->listed.getD (f j) false=decide (j<i))
 {v:Value} (ok':dJ cx E' w') (ext:tA y.up y.kl E w E' w') (hv:cvT E' w' y.x.out v) (hnw:∀l ob,(l,ob)∈y.x.nw->dm E' w' l ob) (hup:∀l ob,(l,ob)∈y.up->dm E' w' l ob)
 (hdom:∀l x,E'.r l=some x->E.r l=some x\/∃ob,(l,ob)∈y.x.nw):QE N cx base f ys (listed.setIfInBounds (f i) true) (a.put (some y.x.d) v) w' E':=by
 have hD:∀d,GH f ys listed d->GH f ys (listed.setIfInBounds (f i) true) d:=λd ⟨j,z,h1,h2,h3⟩=>⟨j,z,by
  rw[cH hil];split
  .rfl
  exact h1,h2,h3⟩
 have hDi:∀d,y.kl=some d->GH f ys (listed.setIfInBounds (f i) true) d:=λd h=>⟨i,y,by rw[cH hil,if_pos rfl],hx,h⟩
 have hgx:∀(j:Nat) (z:Inx),ys[j]?=some z->(ia ys)[j]?=some z.x:=λj z h=>by simp[ia,h]
 have hd':∀j z,ys[j]?=some z->j≠i->z.x.d≠y.x.d:=λj z hj hne he=>hne (sK hdst j i z.x y.x (hgx j z hj) (hgx i y hx) he)
 have hlt:i<ys.length:=(aaa.1 hx).1
 refine⟨ok',λl p hl=>?_,λl ob hl hdd=>?_,λj z hj hz hdd=>?_,λk hkk hdd=>?_,hI.dfr,by simpa [Act.put] using hI.size,λl b h=>hI.td l b (by rw[<-ext.T];exact h)⟩
 .rcases hdom l p hl with h|⟨ob,h⟩
  .rcases hI.dom l p h with h|⟨j,z,ob,h1,h2,h3⟩
   .exact .inl h
   refine .inr ⟨j,z,ob,?_,h2,h3⟩
   rw[cH hil];split
   .rfl
   exact h1
  exact .inr ⟨i,y,ob,by rw[cH hil,if_pos rfl],hx,h⟩
 .cases hto:qK y l with
  |true=>
   rw[sh (q:=λj=>decide (j<i+1)) (B:=base.ob) rfl (λj z hz hj=>by
    simp only[aaj]
    rw[cH hil]
    by_cases hji:f i=f j
    .rw[if_pos hji];have:i=j:=hinj j (aaa.1 hz).1 hji
     subst this;simp
    rw[if_neg hji,hord l hto j z hz hj]
    have:i≠j:=λe=>hji (by rw[e])
    simp only[decide_eq_decide];omega),yc (n:=i+1) (λj=>by simp),List.take_add_one,hx] at hl
   simp only[Option.toList_some] at hl
   rw[Fv,if_pos rfl] at hl
   rcases Rg hto hl with h|h
   .exact hnw l ob h
   exact hup l ob h
  |false=>
   rw[sh (q:=λj=>listed.getD (f j) false) (B:=base.ob) rfl (λj z hz hj=>by
    simp only[aaj]
    rw[cH hil,if_neg]
    intro e
    have:i=j:=hinj j (aaa.1 hz).1 e
    subst this;rw[hx] at hz;cases hz;rw[hto] at hj;cases hj)] at hl
   refine NV hI.ok ext (λob' hm=>?_) (λe=>(hdd l (hDi l e)).1 rfl) (λd hd=>(hdd d (hDi d hd)).2) (hI.obs l ob hl (λd hd=>hdd d (hD d hd)))
   rw[V9 hm] at hto;cases hto
 .by_cases hji:i=j
  .subst hji;rw[hx] at hz;cases hz
   rcases hdN with hdN|⟨_,ho⟩
   .rw[iJ (by rw[hI.size];exact hdN),if_pos rfl];exact hv
   rw[ho];trivial
  rw[cH hil,if_neg (λe=>hji (hinj j (aaa.1 hz).1 e))] at hj
  rcases hdN with hdN|⟨hdN,_⟩
  .rw[iJ (by rw[hI.size];exact hdN),if_neg (Ne.symm (hd' j z hz (Ne.symm hji)))]
   exact Ex hI.ok ext (λd hd=>hdd d (hDi d hd)) (hI.out j z hj hz (λd hd=>hdd d (hD d hd)))
  rw[Lj (by rw[hI.size];exact hdN)]
  exact Ex hI.ok ext (λd hd=>hdd d (hDi d hd)) (hI.out j z hj hz (λd hd=>hdd d (hD d hd)))
 have hxk:y.x.d≠k:=hkk i y (by rw[cH hil,if_pos rfl]) hx
 have hpp:(a.put (some y.x.d) v).tmps.getD k undef=a.tmps.getD k undef:=by
  rcases hdN with hdN|⟨hdN,_⟩
  .rw[iJ (by rw[hI.size];exact hdN),if_neg hxk]
  exact Lj (by rw[hI.size];exact hdN)
 rw[hpp]
 refine Ex hI.ok ext (λd hd=>hdd d (hDi d hd)) (hI.old k (λj z hj hz=>hkk j z ?_ hz) (λd hd=>hdd d (hD d hd)))
 rw[cH hil];split
 .rfl
 exact hj
theorem IA {done:Nat->Bool} {rk:Nat->Nat} (hedge:Edg ops rk) (hhi:∀i,i<ys.length->f i<ops.size) (hinj:∀i j,i<ys.length->j<ys.length->f i=f j->i=j) (hdis:∀i,i<ys.length->done (f i)=false) {nmax:Nat} (hlab:fX base.nx (ia ys) nmax) (hdst:sJ (ia ys)=true)
 (hslot:∀i y,ys[i]?=some y->∀k∈jH y.x.needs,∀j,uX (ia ys) k=some j->if nlt j i then anc ops ops.size (f i) (f j)=true else(i=j\/anc ops ops.size (f j) (f i)=true))
 (hobj:∀i y,ys[i]?=some y->∀l∈uR y,∀j z,ys[j]?=some z->qK z l=true->if nlt j i then anc ops ops.size (f i) (f j)=true else(i=j\/anc ops ops.size (f j) (f i)=true))
 (hkill:∀j z d,ys[j]?=some z->z.kl=some d->∀i y,ys[i]?=some y->i≠j->AB y d=true->anc ops ops.size (f j) (f i)=true)
 (htail:∀j,j<ops.size->done j=false->(∀i,i<ys.length->f i≠j)->∀i,i<ys.length->anc ops ops.size j (f i)=true)
 (htold:∀(i:Nat) (o:Oper) (y:Inx),ops[f i]?=some o->ys[i]?=some y->Ta P N ops base (ys.take i) o y)
 (hfin:∀(listed:Array Bool) a w E,listed.size=ops.size->xt ops listed->(∀j,done j=true->listed.getD j false=true)->(∀i,i<ys.length->listed.getD (f i) false=true)->(∀j,done j=false->(∀i,i<ys.length->f i≠j)->listed.getD j false=false)->QE N cx base f ys listed a w E->wpAny P .any ops Q (unl ops listed) listed a w):
 ∀(m:Nat) (listed:Array Bool) (a:Act) (w:World) (E:Env),((f4 ys.length).filter λi=>!listed.getD (f i) false).length=m->listed.size=ops.size->xt ops listed->
  (∀j,done j=true->listed.getD j false=true)->(∀j,done j=false->(∀i,i<ys.length->f i≠j)->listed.getD j false=false)->QE N cx base f ys listed a w E->wpAny P .any ops Q (unl ops listed) listed a w:=by
 intro m
 induction m with
 |zero=>
  intro listed a w E hm hsz hcl hpre hpost hI
  refine hfin listed a w E hsz hcl hpre (λi hi=>?_) hpost hI
  have:=abz.1 (aaL hm) i (by simpa using hi)
  simpa using this
 |succ m ih=>
  intro listed a w E hm hsz hcl hpre hpost hI
  obtain⟨i0,hi0,hu0⟩:∃i,i<ys.length/\listed.getD (f i) false=false:=by
   have:((f4 ys.length).filter λi=>!listed.getD (f i) false)≠[]:=λe=>by rw[e] at hm;simp at hm
   obtain⟨i,hi⟩:=aby _ this
   simp only[abg,abi,aax] at hi
   exact⟨i,hi.1,hi.2⟩
  have hus:=tv (ops:=ops) hsz (hhi i0 hi0) hu0
  rw[hus]
  refine⟨λh0=>absurd h0 (FA hedge hsz hus),λp hp=>?_⟩
  obtain⟨hio,hun,o,ho,hd⟩:=mX hsz hp
  have hdp:done p=false:=by
   cases h:done p with
   |false=>rfl
   |true=>rw[hpre p h] at hun;cases hun
  obtain⟨i,hil,rfl⟩:∃i,i<ys.length/\p=f i:=by
   apply Classical.byContradiction
   intro hno
   have hno':∀i,i<ys.length->f i≠p:=λi hi e=>hno ⟨i,hi,e.symm⟩
   have:=zX hcl (htail p hio hdp hno' i0 hi0) ⟨o,ho,hd⟩
   rw[this] at hu0;cases hu0
  obtain⟨y,hx⟩:∃y,ys[i]?=some y:=⟨_,v0 hil⟩
  have hus':unl ops (listed.setIfInBounds (f i0) true)=unl ops (listed.setIfInBounds (f i) true):=by
   have:=tv (ops:=ops) hsz hio hun;omega
  rw[hus']
  obtain⟨t1,t2,t3,t5⟩:=htold i o y ho hx
  have t4:y.x.d<N\/(N<=y.x.d/\y.x.out= .any):=t3.imp (·.2) (·.2)
  have hanc:∀j,anc ops ops.size (f i) (f j)=true->listed.getD (f j) false=true:=λj h=>zX hcl h ⟨o,ho,hd⟩
  have hanc':∀j,anc ops ops.size (f j) (f i)=true->listed.getD (f j) false=false:=λj h=>by
   cases hj:listed.getD (f j) false with
   |false=>rfl
   |true=>rw[KO hsz hcl h hj] at hun;cases hun
  have hord:∀l∈uR y,∀j z,ys[j]?=some z->qK z l=true->listed.getD (f j) false=decide (j<i):=by
   intro l hl j z hz hj
   have:=hobj i y hx l hl j z hz hj
   by_cases hji:j<i
   .rw[if_pos (by simp[nlt];omega)] at this
    rw[hanc j this];simp[hji]
   rw[if_neg (by simp[nlt];omega)] at this
   simp only[hji,decide_false]
   rcases this with rfl|h
   .exact hun
   exact hanc' j h
  have hsp:∀d,GH f ys listed d->AB y d=false:=λd ⟨j,z,h1,h2,h3⟩=>by
   cases hs:AB y d with
   |false=>rfl
   |true=>
    have hij:i≠j:=λe=>by subst e;rw[hun] at h1;cases h1
    rw[hanc' j (hkill j z d h2 h3 i y hx hij hs)] at h1;cases h1
  have hneeds:∀z t,(z,t)∈y.x.needs->cvT E w t (a.eval z):=by
   intro z t hm
   have hnt:∀d,GH f ys listed d->t.has d=false:=λd hd=>by
    have:=hsp d hd
    simp only[AB,aaq] at this
    have:=abk.1 this.1.1 (z,t) hm
    simpa using this
   have ht:=t1 z t hm
   cases z with
   |tmp k=>
    have hks:k∈jH y.x.needs:=by
     have key:∀(l:List (Operand×T)),(Operand.tmp k,t)∈l->k∈jH l:=by
      intro l
      induction l with
      |nil=>intro h;cases h
      |cons p r ihl=>
       intro h
       rcases aae.1 h with e|h
       .rw[<-e];simp[jH]
       have h9:=ihl h;obtain⟨z,u⟩:=p;cases z<;>simp[jH,h9]
     exact key _ hm
    show cvT E w t (a.tmps.getD k undef)
    have ht':gt (vN base (ia (ys.take i))) k=t:=ht
    have hit:ia (ys.take i)=(ia ys).take i:=by simp[ia,abo]
    rw[hit] at ht'
    have hgx:∀(j:Nat) (z:Inf),(ia ys)[j]?=some z->∃y',ys[j]?=some y'/\y'.x=z:=λj z h=>by
     simp only[ia,List.getElem?_map,Option.map_eq_some_iff] at h;exact h
    cases hw:uX (ia ys) k with
    |none=>
     have hno:∀z∈ia ys,z.d≠k:=by
      intro z hz e
      have:=aa0.1 hw z hz
      rw[e] at this;simp at this
     rw[zl _ _ (λz hz=>hno z (aaA hz))] at ht'
     rw[<-ht']
     exact hI.old k (λj y' _ hy=>hno y'.x (aa7.2 ⟨y',aab hy,rfl⟩)) (λd hd=>by rw[ht'];exact hnt d hd)
    |some j=>
     have hs:=hslot i y hx k hks j hw
     obtain⟨hjl,hjp,_⟩:=aaW.1 hw
     have hjd:(ia ys)[j].d=k:=aad hjp
     obtain⟨yj,hyj,hyx⟩:=hgx j _ (v0 hjl)
     have hju:∀j' z,(ia ys)[j']?=some z->z.d=k->j'=j:=λj' z hy he=>sK hdst j' j z (ia ys)[j] hy (v0 hjl) (by rw[he,hjd])
     by_cases hji:j<i
     .rw[if_pos (by simp[nlt];omega)] at hs
      have hdone:=hanc j hs
      have h9:=wX (base:=base) ((ia ys).take i) j (ia ys)[j] (by rw[aat,if_pos hji];exact v0 hjl) (λj' z hy he=>hju j' z (by rw[aat] at hy;split at hy;exact hy;cases hy) (by rw[he,hjd]))
      rw[hjd] at h9
      have:=hI.out j yj hdone hyj (λd hd=>by rw[hyx,<-h9,ht'];exact hnt d hd)
      rw[hyx,hjd] at this
      rw[<-ht',h9];exact this
     rw[if_neg (by simp[nlt];omega)] at hs
     rw[zl _ _ (λz hz e=>by
      obtain⟨j',hj'⟩:=aap hz
      rw[aat] at hj'
      split at hj'
      .rename_i hlt;have:=hju j' z hj' e;omega
      cases hj')] at ht'
     rw[<-ht']
     refine hI.old k (λj' y' hj' hy he=>?_) (λd hd=>by rw[ht'];exact hnt d hd)
     have hjj:=hju j' y'.x (by simp[ia,hy]) he
     subst hjj
     rcases hs with rfl|hs
     .rw[hun] at hj';cases hj'
     rw[hanc' j' hs] at hj';cases hj'
   |const v=>have:=(show Rel N cx E ⟨[],[],base.nx⟩ a w->cvT E w (opT [] (.const v)) (a.eval (.const v)) from λh=>h.op _);rw[<-ht];cases v<;>simp only[opT,Act.eval,cvT,cvV]<;>first|exact yM E w _|exact⟨_,rfl,uY E w _⟩|(simp only[cvC,rdD])
   |func f=>rw[<-ht];simp[opT,Act.eval,cvT,cvV,cvC]
   |global g=>rw[<-ht];trivial
  have hnob:∀l ob,(l,ob)∈y.x.nob->dm E w l ob:=by
   intro l ob hm
   have hgo:=t2 l ob hm
   refine hI.obs l ob ?_ (λd hd=>by
    have:=hsp d hd
    simp only[AB,aaq] at this
    refine⟨λe=>?_,by simpa using abk.1 this.2 (l,ob) hm⟩
    subst e
    have h9:mJ (uR y) l=true:=aaD.2 ⟨l,by simp only[uR,aac,aa7];exact .inl ⟨_,hm,rfl⟩,by simp⟩
    rw[h9] at this;cases this.1.2)
   rw[<-hgo,obX,<-yc (p:=λj=>decide (j<i)) (k:=0) (n:=i) (λj=>by simp)]
   refine sh rfl (λj z hz hj=>?_)
   rw[aaj]
   exact hord l (by simp only[uR,aac,aa7];exact .inl ⟨_,hm,rfl⟩) j z hz hj
  have hgi:(ia ys)[i]?=some y.x:=by simp[ia,hx]
  have hfresh:∀l ob,(l,ob)∈y.x.nw->E.r l=none:=by
   intro l ob hm
   cases hr:E.r l with
   |none=>rfl
   |some p=>
    have hlr:=(lQ hlab).2 i y.x l ob hgi hm
    rcases hI.dom l p hr with h|⟨j,z,ob',h1,h2,h3⟩
    .omega
    have:=(yX hlab i j y.x z.x l ob ob' hgi (by simp[ia,h2]) hm h3).1
    subst this;rw[hun] at h1;cases h1
  have hnext:∀v E' w',dJ cx E' w'->tA y.up y.kl E w E' w'->cvT E' w' y.x.out v->(∀l ob,(l,ob)∈y.x.nw->dm E' w' l ob)->(∀l ob,(l,ob)∈y.up->dm E' w' l ob)->(∀l x,E'.r l=some x->E.r l=some x\/∃ob,(l,ob)∈y.x.nw)->
   wpAny P .any ops Q (unl ops (listed.setIfInBounds (f i) true)) (listed.setIfInBounds (f i) true) (a.put (some y.x.d) v) w':=by
   intro v E' w' k1 k2 k3 k4 k4' k5
   refine ih _ _ _ E' ?_ (by simpa using hsz) (xC hsz hio ho hd hcl) (λj hj=>?_) (λj hj hj'=>?_) (Rb hI hdst hx oaa (λj hj e=>hinj i j hil hj e) hun t4 (λl hl=>hord l (Ox hl)) k1 k2 k3 k4 k4' k5)
   .have hcount:∀(l:List Nat),l.Nodup->(∀k∈l,k<ys.length)->i∈l->(l.filter λk=>!listed.getD (f k) false).length=(l.filter λk=>!(listed.setIfInBounds (f i) true).getD (f k) false).length+1:=by
     intro l
     induction l with
     |nil=>intro _ _ h;cases h
     |cons k l ihl=>
      intro hnd hbd hm
      obtain⟨hk1,hk2⟩:=aaY.1 hnd
      by_cases hki:i=k
      .subst hki
       have hsame:(l.filter λk=>!listed.getD (f k) false)=(l.filter λk=>!(listed.setIfInBounds (f i) true).getD (f k) false):=by
        apply abB
        intro z hz
        rw[cH oaa,if_neg (λe=>hk1 (by
         have:i=z:=hinj i z hil (hbd z (by simp[hz])) e
         rw[this];exact hz))]
       rw[aaM (by simp only[aax];exact hun),aaN (by rw[cH oaa,if_pos rfl];simp),hsame,aai]
      have hml:i∈l:=by rcases aae.1 hm with e|e;exact absurd e hki;exact e
      have:=ihl hk2 (λz hz=>hbd z (by simp[hz])) hml
      have hgk:(listed.setIfInBounds (f i) true).getD (f k) false=listed.getD (f k) false:=by rw[cH oaa,if_neg (λe=>hki (hinj i k hil (hbd k (by simp)) e))]
      cases hgd:listed.getD (f k) false with
      |true=>rw[aaN (by simp only[hgd];simp),aaN (by simp only[hgk,hgd];simp)];exact this
      |false=>rw[aaM (by simp only[hgd];simp),aaM (by simp only[hgk,hgd];simp),aai,aai,this]
    have:=hcount (f4 ys.length) abC (λk hk=>by simpa using hk) (by simpa using hil)
    omega
   .rw[cH oaa];split
    .rfl
    exact hpre j hj
   rw[cH oaa,if_neg (hj' i hil)];exact hpost j hj hj'
  have hrun:∀needs,(∀z t,(z,t)∈needs->cvT E w t (a.eval z))->AWK P o needs y.x.nob y.x.out y.x.nw y.up y.kl->o.wp P a w (wpAny P .any ops Q (unl ops (listed.setIfInBounds (f i) true)) (listed.setIfInBounds (f i) true)) Q:=by
   intro needs hne hawn
   refine tz (λ_ _ _ h=>h.elim) (Oper.wp_mono ?_ (hawn cx E a w hI.ok hne hnob (λl ob hm=>⟨hfresh l ob hm,Fk hlab i y.x l ob hgi hm⟩)))
   rintro a' w' ⟨v,E',rfl,k1,k2,k3,k4,k4',k5⟩
   rw[PS t3 hI.size]
   exact hnext v E' w' k1 k2 k3 k4 k4' k5
  have hguard:∀j dj (b:Bool),(ops[j]?).bind (·.dst)=some dj->dj<N->cvT E w (tB b) (a.eval (.tmp dj))->yielded ops a.tmps j=some b:=by
   intro j dj b hj hdj hcv
   have hb:a.tmps.getD dj undef= .bool b:=by simpa [cvT,cvV,cvC,rdD,Act.eval] using hcv
   have hs:dj<a.tmps.size:=by rw[hI.size];exact hdj
   have h2:a.tmps[dj]?=some (.bool b):=by
    rw[aar hs];simpa [Array.getD,hs] using hb
   unfold yielded
   cases ho':ops[j]? with
   |none=>simp[ho'] at hj
   |some o'=>simp[ho'] at hj;simp[hj,h2]
  unfold wpOp
  simp only[ho]
  rcases t5 with⟨hg,hawn⟩|⟨j,dj,b,zs,hg,hj,hdj,hnd,hawn⟩|⟨j,dj,b,t,hg,hj,hdj,hnd,hno,hout,hnw,hup,hkl⟩
  .rw[if_pos (by simp[Region.wanted,hg])]
   exact .inl (hrun _ hneeds hawn)
  .have hy:=hguard j dj b hj hdj (hneeds (.tmp dj) (tB b) (by rw[hnd];simp))
   rw[if_pos (by simp[Region.wanted,hg,hy])]
   exact .inl (hrun zs (λz t hm=>hneeds z t (by rw[hnd];exact .tail _ hm)) hawn)
  have hy:=GF (N:=N) (ops:=ops) (hneeds (.tmp dj) t (by rw[hnd];simp)) (by rw[hI.size];exact hdj) hj hno
  rw[if_neg (by simp[Region.wanted,hg,hy]),PS t3 hI.size]
  exact hnext undef E w hI.ok (by rw[hup,hkl];exact .of_extW (.of_ext (Ext.refl E w))) (by rw[hout];exact⟨#[],rfl,trivial⟩) (by rw[hnw];simp) (by rw[hup];simp) (λ_ _ h=>.inl h)
end
def BO (P:Program) (N:Nat) (ops:Array Oper) (o:Oper) (st st':St):Prop:=
 (o.guard=none/\AWO P N o st st')\/(∃j dj b,o.guard=some (j,b)/\(ops[j]?).bind (·.dst)=some dj/\dj<N/\gt st.sl dj=tB b/\AWO P N o st st')
def KT (ops:Array Oper) (done:List Nat) (h:Nat):Bool:=!mJ done h&&(f4 ops.size).all λj=>d0 j h||mJ done j||anc ops ops.size j h
def kls:List Inx->List Nat
 |[]=>[]
 |y::ys=>match y.kl with
  |some d=>d::kls ys
  |none=>kls ys
theorem PA {d:Nat}:∀{ys:List Inx} {y:Inx},y∈ys->y.kl=some d->d∈kls ys
 |z::zs,y,hm,hk=>by
  rcases aae.1 hm with rfl|hm
  .simp[kls,hk]
  have:=PA hm hk
  unfold kls
  split
  .exact abx _ this
  exact this
def D6 (ys:List Inx) (st s:St):Prop:=
 (∀k,gt s.sl k= .any\/(gt s.sl k=gt st.sl k/\∀d∈kls ys,(gt st.sl k).has d=false))/\(∀l x,go s.ob l=some x->go st.ob l=some x/\∀d∈kls ys,l≠d/\x.hasO d=false)/\s.nx=st.nx
theorem Ev {ys:List Inx} (h:kls ys=[]):D6 ys st st:=by
 refine⟨λk=>.inr ⟨rfl,?_⟩,λl x hl=>⟨hl,?_⟩,rfl⟩<;>(rw[h];intro d hd;cases hd)
theorem Eu {ys:List Inx} {ds:List Nat} {ob:Laa} (h:kls ys=ds) (hk:Fj ds sl ob=some (sl',ob')):D6 ys ⟨sl,ob,nx⟩ ⟨sl',ob',nx⟩:=by
 obtain⟨h1,h2⟩:=LF hk
 subst h
 exact⟨h1,h2,rfl⟩
theorem Nf {ys:List Inx} (h:uK st st2) (hc:D6 ys st2 s):D6 ys st s:=
 ⟨λk=>by rw[h.1 k];exact hc.1 k,λl x hl=>by rw[h.2.1];exact hc.2.1 l x hl,hc.2.2.trans h.2.2.symm⟩
def DZ (P:Program) (N:Nat) (ops:Array Oper):List (Nat×Oper)->List Nat->List Nat->List Inx->St->St->(St->Prop)->Prop
 |[],done,seg,ys,_,st,K=>BG ops done seg ys=true/\∃s,D6 ys st s/\K s
 |(p,o)::r,done,seg,ys,base,st,K=>
  (∃y st1 st',DS2 P N ops o st st1 y/\uK st1 st'/\DZ P N ops r done (seg++[p]) (ys++[y]) base st' K)\/
  (BG ops done seg ys=true/\KT ops (seg++done) p=true/\∃s st0 st1 st2,D6 ys st s/\dS N s st0/\BO P N ops o st0 st1/\dS N st1 st2/\DZ P N ops r (p::(seg++done)) [] [] st2 st2 K)
theorem gS {l:List Nat} :mJ l n=true↔n∈l:=by
 simp only[mJ,aaD]
 constructor
 .rintro⟨k,h1,h2⟩;rw[<-aad h2];exact h1
 intro h;exact⟨n,h,by simp⟩
theorem qR {seg:List Nat} (h:j<seg.length):seg[j]?=some (at0 seg j):=by
 unfold at0
 rw[abl,v0 h]
 rfl
section
variable {P:Program} {N:Nat} {cx:Cx} {ops:Array Oper} {base:St} {f:Nat->Nat} {done seg:List Nat} {ys:List Inx} {Q:Exit->Act->World->Prop}
theorem Ml (h:BG ops done seg ys=true):sJ (ia ys)=true/\seg.length=ys.length/\(seg++done).Nodup/\(∀i,i<ys.length->at0 seg i<ops.size)/\
 (∀i y,ys[i]?=some y->∀k∈jH y.x.needs,∀j,uX (ia ys) k=some j->if nlt j i then anc ops ops.size (at0 seg i) (at0 seg j)=true else(i=j\/anc ops ops.size (at0 seg j) (at0 seg i)=true))/\
 (∀i y,ys[i]?=some y->∀l∈uR y,∀j z,ys[j]?=some z->qK z l=true->if nlt j i then anc ops ops.size (at0 seg i) (at0 seg j)=true else(i=j\/anc ops ops.size (at0 seg j) (at0 seg i)=true))/\
 (∀j,j<ops.size->mJ done j=false->(∀i,i<ys.length->at0 seg i≠j)->∀i,i<ys.length->anc ops ops.size j (at0 seg i)=true)/\
 (∀j z d,ys[j]?=some z->z.kl=some d->∀i y,ys[i]?=some y->i≠j->AB y d=true->anc ops ops.size (at0 seg j) (at0 seg i)=true):=by
 simp only[BG,hV] at h
 obtain⟨⟨⟨⟨⟨⟨h1,h2⟩,h2'⟩,h2''⟩,h3⟩,h4⟩,h5⟩:=h
 have hlen:seg.length=ys.length:=aad h2
 have key:∀(i j:Nat),(if nlt j i then anc ops ops.size (at0 seg i) (at0 seg j) else d0 i j||anc ops ops.size (at0 seg j) (at0 seg i))=true->if nlt j i then anc ops ops.size (at0 seg i) (at0 seg j)=true else(i=j\/anc ops ops.size (at0 seg j) (at0 seg i)=true):=by
  intro i j h
  split
  .rename_i hji;simpa [hji] using h
  rename_i hji
  simp only[hji,abA,if_false,aam] at h
  rcases h with h|h
  .exact .inl (aad h)
  exact .inr h
 refine⟨h1,hlen,kW h2',λi hi=>?_,λi y hy k hk j hj=>?_,λi y hy l hl j z hz ht=>?_,λj hj hd hs i hi=>?_,λj z d hz hd i y hy hij hs=>?_⟩
 .exact dr (aag.1 h2'' (at0 seg i) (aab (qR oaa)))
 .have hil:=(aaa.1 hy).1
  have:=aag.1 h3 i (by simpa using hil)
  simp only[hy,hV] at this
  have:=aag.1 this.1 k hk
  simp only[hj] at this
  exact key i j this
 .have hil:=(aaa.1 hy).1
  have hjl:=(aaa.1 hz).1
  have:=aag.1 h3 i (by simpa using hil)
  simp only[hy,hV] at this
  have:=aag.1 (aag.1 this.2 l hl) j (by simpa using hjl)
  simp only[hz,ht,abj,aaJ] at this
  exact key i j this
 .have:=aag.1 h4 j (by simpa using hj)
  rw[aam,aam] at this
  rcases this with(h|h)|h
  .rw[hd] at h;cases h
  .obtain⟨n,hn⟩:=aap (gS.1 h)
   have hns:=(aaa.1 hn).1
   have:=qR hns
   rw[hn] at this
   exact absurd (Option.some.inj this).symm (hs n oaa)
  exact aag.1 h (at0 seg i) (aab (qR oaa))
 have hjl:=(aaa.1 hz).1
 have hil:=(aaa.1 hy).1
 have h6:=aag.1 h5 j (by simpa using hjl)
 simp only[hz,hd] at h6
 have h7:=aag.1 h6 i (by simpa using hil)
 simp only[hy,hs,abj,Bool.or_false,aam] at h7
 rcases h7 with h7|h7
 .exact absurd (aad h7) hij
 exact h7
theorem LA (hI:QE N cx base f ys listed a w E) (hdst:sJ (ia ys)=true) (hdone:∀j,j<ys.length->listed.getD (f j) false=true)
 (h1:∀k,gt st.sl k=gt (vN base (ia ys)) k) (h2:st.ob=obX base ys) (h3:fX base.nx (ia ys) st.nx) (hC:D6 ys st s):Rel N cx E s a w:=by
 have hr:=lQ h3
 obtain⟨C1,C2,C3⟩:=hC
 have hDk:∀d,GH f ys listed d->d∈kls ys:=λd ⟨j,y,_,hy,hk⟩=>PA (aab hy) hk
 refine⟨hI.ok,λl' x' hl=>?_,λl' ob hl=>?_,λk=>?_,hI.dfr,hI.size,λl' b' h'=>by rw[C3];exact aau (hI.td l' b' h') hr.1⟩
 .rw[C3];rcases hI.dom l' x' hl with h|⟨j,y,ob,_,h4,h5⟩
  .omega
  have:=hr.2 j y.x l' ob (by simp[ia,h4]) h5;omega
 .obtain⟨hl,hn⟩:=C2 l' ob hl
  refine hI.obs l' ob ?_ (λd hd=>hn d (hDk d hd))
  rw[<-hl,h2,obX]
  refine sh rfl (λj z hz hj=>?_)
  rw[aaj]
  exact hdone j (aaa.1 hz).1
 rcases C1 k with e|⟨e,hn⟩
 .rw[e];trivial
 rw[e]
 have hn':∀d,GH f ys listed d->(gt st.sl k).has d=false:=λd hd=>hn d (hDk d hd)
 rw[h1 k] at hn' ⊢
 cases hw:uX (ia ys) k with
 |none=>
  have hno:∀z∈ia ys,z.d≠k:=by
   intro z hz e
   have:=aa0.1 hw z hz
   rw[e] at this;simp at this
  rw[zl _ _ hno] at hn' ⊢
  exact hI.old k (λj y _ hy=>hno y.x (aa7.2 ⟨y,aab hy,rfl⟩)) hn'
 |some j=>
  obtain⟨hjl,hjp,_⟩:=aaW.1 hw
  have hjd:(ia ys)[j].d=k:=aad hjp
  have hjl':j<ys.length:=by simpa [ia] using hjl
  have h5:(ia ys)[j]=(ys[j]).x:=by simp[ia]
  have h9:=wX (base:=base) (ia ys) j (ia ys)[j] (v0 hjl) (λj' y hy he=>sK hdst j' j y (ia ys)[j] hy (v0 hjl) he)
  rw[hjd] at h9
  have:=hI.out j ys[j] (hdone j hjl') (v0 hjl') (λd hd=>by rw[<-h5,<-h9];exact hn' d hd)
  rw[<-h5,hjd] at this
  rw[h9];exact this
theorem L7 (hR:Rel N cx E base a w) (hl:∀j,j<ys.length->listed.getD (f j) false=false):QE N cx base f ys listed a w E:=by
 refine⟨hR.ok,λl x h=>.inl (hR.dom l x h),λl ob h _=>?_,λj y h hy _=>?_,λk _ _=>hR.sl k,hR.dfr,hR.size,hR.td⟩
 .refine hR.obs l ob ?_
  rw[sh (q:=λ_=>false) (B:=base.ob) rfl (λj z hz hj=>by rw[aaj];exact hl j (aaa.1 hz).1)] at h
  rw[yc (n:=0) (λj=>by simp)] at h
  simpa [obF] using h
 rw[hl j (aaa.1 hy).1] at h;cases h
theorem LS {l:List Nat} (h:l.Nodup):∀(i j:Nat) (x:Nat),l[i]?=some x->l[j]?=some x->i=j:=by
 intro i j x hi hj
 obtain⟨hi',e1⟩:=aaa.1 hi
 obtain⟨hj',e2⟩:=aaa.1 hj
 rcases abr i j with h'|h'|h'
 .exact absurd (e1.trans e2.symm) (aaG.1 h i j hi' hj' h')
 .exact h'
 exact absurd (e2.trans e1.symm) (aaG.1 h j i hj' hi' h')
theorem TU {K:St->Prop} {rk:Nat->Nat} (hedge:Edg ops rk) (hQ:∀E st a w,Rel N cx E st a w->K st->Q .normal a w):
 ∀{l:List (Nat×Oper)} {done seg:List Nat} {ys:List Inx} {base st:St},DZ P N ops l done seg ys base st K->seg.length=ys.length->(∀q∈l,ops[q.1]?=some q.2)->(∀j,j<ops.size->j∈seg\/j∈done\/∃q∈l,q.1=j)->
  (∀(i:Nat) (o:Oper) (y:Inx),ops[at0 seg i]?=some o->ys[i]?=some y->Ta P N ops base (ys.take i) o y)->
  (∀k,gt st.sl k=gt (vN base (ia ys)) k)->st.ob=obX base ys->fX base.nx (ia ys) st.nx->
  ∀(listed:Array Bool) (a:Act) (w:World) (E:Env),listed.size=ops.size->xt ops listed->(∀j,listed.getD j false=mJ done j)->Rel N cx E base a w->wpAny P .any ops Q (unl ops listed) listed a w:=by
 intro l
 induction l with
 |nil=>
  intro done seg ys base st hD hlen hops hcov htold h1 h2 h3 listed a w E hsz hcl hls hR
  obtain⟨hseg,s,hcl0,hK⟩:=hD
  obtain⟨c1,c1',c1'',c2,c3,c4,c5,c6⟩:=Ml hseg
  obtain⟨nd1,nd2,nd3⟩:=abq.1 c1''
  have hnd:∀i,i<ys.length->mJ done (at0 seg i)=false:=λi hi=>by
   rw[abh];intro h
   exact nd3 _ (aab (qR oaa)) _ (gS.1 h) rfl
  refine IA (f:=at0 seg) (done:=mJ done) hedge c2 (λi j hi hj e=>LS nd1 i j _ (qR oaa) (by rw[e];exact qR oaa)) hnd h3 c1 c3 c4 c6 c5 htold (λlisted' a' w' E' hsz' hcl' hd' hs' hp' hI'=>?_) _ listed a w E rfl hsz hcl (λj hj=>by rw[hls j];exact hj) (λj hj _=>by rw[hls j];exact hj) (L7 hR (λj hj=>by rw[hls];exact hnd j hj))
  have hall:∀j,j<ops.size->listed'.getD j false=true:=λj hj=>by
   rcases hcov j hj with h|h|⟨q,hq,_⟩
   .obtain⟨i,hi⟩:=aap h
    have his:=(aaa.1 hi).1
    have:=qR his;rw[hi] at this
    rw[Option.some.inj this];exact hs' i oaa
   .exact hd' j (gS.2 h)
   cases hq
  have hu:unl ops listed'=0:=by
   unfold unl
   rw[abw,abz]
   intro j hj
   rw[hall j (by simpa using hj)]
   simp
  rw[hu]
  refine⟨?_,hQ E' s a' w' (LA hI' c1 hs' h1 h2 h3 hcl0) hK⟩
  rw[List.eq_nil_iff_forall_not_mem]
  intro i hi
  obtain⟨k1,k2,_⟩:=mX hsz' hi
  rw[hall i k1] at k2;cases k2
 |cons q r ih=>
  obtain⟨p,o⟩:=q
  intro done seg ys base st hD hlen hops hcov htold h1 h2 h3 listed a w E hsz hcl hls hR
  have hat:ops[p]?=some o:=hops (p,o) (by simp)
  rcases hD with⟨y,st1,st',hds,hsame,hr⟩|⟨hseg,hbar,s,st0,st1,st2,hcl0,hw0,hbo,hw1,hr⟩
  .obtain⟨k1,k2,k3,k4⟩:=Sm hds hsame h1 h2 h3
   refine ih hr (by simp[hlen]) (λq hq=>hops q (by simp[hq])) (λj hj=>?_) (λi o' y' ho' hy'=>?_) k2 k3 k4 listed a w E hsz hcl hls hR
   .rcases hcov j hj with h|h|⟨q,hq,e⟩
    .exact .inl (by simp[h])
    .exact .inr (.inl h)
    rcases aae.1 hq with rfl|hq
    .exact .inl (by simp[<-e])
    exact .inr (.inr ⟨q,hq,e⟩)
   rcases aao i ys.length with h|h
   .rw[aal h] at hy'
    rw[List.take_append_of_le_length oaa]
    have e:at0 (seg++[p]) i=at0 seg i:=by unfold at0;rw[abl,abl,aal oaa]
    rw[e] at ho'
    exact htold i o' y' ho' hy'
   have hi:i=ys.length:=by
    have:=(aaa.1 hy').1
    simp at this;omega
   subst hi
   simp at hy'
   subst hy'
   rw[List.take_left]
   have e:at0 (seg++[p]) ys.length=p:=by unfold at0;rw[abl,<-hlen];simp
   rw[e,hat] at ho'
   cases ho'
   exact k1
  obtain⟨c1,c1',c1'',c2,c3,c4,c5,c6⟩:=Ml hseg
  obtain⟨nd1,nd2,nd3⟩:=abq.1 c1''
  have hlt:p<ops.size:=by
   rcases aao p ops.size with h|h
   .exact h
   rw[aaw h] at hat;cases hat
  have hnd:∀i,i<ys.length->mJ done (at0 seg i)=false:=λi hi=>by
   rw[abh];intro h
   exact nd3 _ (aab (qR oaa)) _ (gS.1 h) rfl
  refine IA (f:=at0 seg) (done:=mJ done) hedge c2 (λi j hi hj e=>LS nd1 i j _ (qR oaa) (by rw[e];exact qR oaa)) hnd h3 c1 c3 c4 c6 c5 htold (λlisted' a' w' E' hsz' hcl' hd' hs' hp' hI'=>?_) _ listed a w E rfl hsz hcl (λj hj=>by rw[hls j];exact hj) (λj hj _=>by rw[hls j];exact hj) (L7 hR (λj hj=>by rw[hls];exact hnd j hj))
  have hseg':∀j,j∈seg->listed'.getD j false=true:=λj h=>by
   obtain⟨i,hi⟩:=aap h
   have his:=(aaa.1 hi).1
   have:=qR his;rw[hi] at this
   rw[Option.some.inj this];exact hs' i oaa
  have hls':∀j,listed'.getD j false=mJ (seg++done) j:=λj=>by
   cases hm:mJ (seg++done) j with
   |true=>
    rcases aac.1 (gS.1 hm) with h|h
    .exact hseg' j h
    exact hd' j (gS.2 h)
   |false=>
    have hn:j∉seg++done:=λh=>by rw[gS.2 h] at hm;cases hm
    refine hp' j ?_ (λi hi e=>hn ?_)
    .rw[abh];intro h;exact hn (aac.2 (.inr (gS.1 h)))
    rw[<-e];exact aac.2 (.inl (aab (qR oaa)))
  have hRel:=LA hI' c1 hs' h1 h2 h3 hcl0
  simp only[KT,hV] at hbar
  obtain⟨hpd,hbar⟩:=hbar
  have hun:listed'.getD p false=false:=by rw[hls'];simpa using hpd
  have hus:=tv (ops:=ops) hsz' hlt hun
  rw[hus]
  refine⟨λh0=>absurd h0 (FA hedge hsz' hus),λq hq=>?_⟩
  obtain⟨hio,hunp,o',ho',hd⟩:=mX hsz' hq
  have hp:q=p:=by
   have hb:=aag.1 hbar q (by simpa using hio)
   rw[aam,aam] at hb
   rcases hb with(hb|hb)|hb
   .exact aad hb
   .rw[hls',hb] at hunp;cases hunp
   have:=zX hcl' hb ⟨o',ho',hd⟩
   rw[hun] at this;cases this
  subst hp
  rw[hat] at ho'
  cases ho'
  obtain⟨E0,hR0⟩:=hw0 cx E' a' w' hRel
  have hrun:∀(h:AWO P N o st0 st1),o.wp P a' w' (wpAny P .any ops Q (unl ops (listed'.setIfInBounds q true)) (listed'.setIfInBounds q true)) Q:=by
   intro h
   refine tz (λ_ _ _ h=>h.elim) (Oper.wp_mono ?_ (h cx E0 a' w' hR0))
   rintro a2 w2 ⟨E2,hR2⟩
   obtain⟨E3,hR3⟩:=hw1 cx E2 a2 w2 hR2
   refine ih hr rfl (λq hq=>hops q (by simp[hq])) (λj hj=>?_) (λi o' y' ho' hy'=>by simp at hy') (λk=>rfl) rfl rfl _ a2 w2 E3 (by simpa using hsz') (xC hsz' hlt hat hd hcl') (λj=>?_) hR3
   .rcases hcov j hj with h|h|⟨z,hz,e⟩
    .exact .inr (.inl (by simp[h]))
    .exact .inr (.inl (by simp[h]))
    rcases aae.1 hz with rfl|hz
    .exact .inr (.inl (by simp[<-e]))
    exact .inr (.inr ⟨z,hz,e⟩)
   rw[cH oaa]
   split
   .rename_i h;subst h;symm;exact gS.2 (by simp)
   rename_i hne
   rw[hls' j]
   cases hm:mJ (seg++done) j with
   |true=>symm;exact gS.2 (abx _ (gS.1 hm))
   |false=>
    symm;rw[abh];intro h
    rcases aae.1 (gS.1 h) with e|h
    .exact hne e.symm
    rw[gS.2 h] at hm;cases hm
  unfold wpOp
  simp only[hat]
  rcases hbo with⟨hg,hawo⟩|⟨j,dj,b,hg,hj,hdj,hb,hawo⟩
  .rw[if_pos (by simp[Region.wanted,hg])]
   exact .inl (hrun hawo)
  have hy:=GE (ops:=ops) hR0 hj hdj hb
  rw[if_pos (by simp[Region.wanted,hg,hy])]
  exact .inl (hrun hawo)
end
def JT (l:List Oper):List Nat->Option (List (Nat×Oper))
 |[]=>some []
 |i::is=>match l[i]?,JT l is with
  |some o,some r=>some ((i,o)::r)
  |_,_=>none
def Tw (n:Nat) (is:List Nat):Bool:=(f4 n).all λj=>mJ is j
theorem s5 {l:List Oper}:∀{is:List Nat} {r:List (Nat×Oper)},JT l is=some r->(∀q∈r,l[q.1]?=some q.2)/\(∀j∈is,∃q∈r,q.1=j)
 |[],r,h=>by simp[JT] at h;subst h;simp
 |i::is,r,h=>by
  simp only[JT] at h
  split at h
  .rename_i o r' h1 h2
   simp at h;subst h
   obtain⟨k1,k2⟩:=s5 h2
   refine⟨λq hq=>?_,λj hj=>?_⟩
   .rcases aae.1 hq with rfl|hq
    .exact h1
    exact k1 q hq
   rcases aae.1 hj with rfl|hj
   .exact⟨_,List.mem_cons_self ..,rfl⟩
   obtain⟨q,hq,e⟩:=k2 j hj;exact⟨q,abx _ hq,e⟩
  cases h
theorem qS {id:Nat} {l:List Oper} {AQ:Exit->St->Prop} (is:List Nat) {r:List (Nat×Oper)} (hm:P.follows .mixedOrders=true:=by exact Try.follows) (he:DL l.toArray=true:=by kernel_rfl) (hc:Tw l.length is=true:=by kernel_rfl) (ho:JT l is=some r:=by exact rfl)
 (h:DZ P N l.toArray r [] [] [] st st (λs=>AQ .normal s)):AWC P N (.region id l.toArray true) st AQ:=by
 intro cx E a w hR
 refine wp_region_any hm ?_
 have hR':=Bz hR
 have hedge:∀i o,l.toArray[i]?=some o->∀e∈o.after,Region.binds .any e=true->e.on<i:=by
  intro i o ho e hm hb
  have hi:i<l.toArray.size:=by
   rcases aao i l.toArray.size with h|h
   .exact h
   rw[aaw h] at ho;cases ho
  have:=aag.1 he i (by simpa using hi)
  simp only[ho] at this
  have:=aag.1 this e (by simpa using hm)
  simp only[hb,abj,aaJ] at this
  exact dr this
 have hfull:unl l.toArray (aak l.toArray.size false)=l.toArray.size:=by
  unfold unl
  rw[List.filter_eq_self.2]
  .simp
  intro i hi;rw[ik];rfl
 have:=TU (P:=P) (cx:=cx) (Q:=Fm N cx AQ) (TX hedge) (λE st a w hR hK=>⟨E,st,hR,hK⟩) h rfl (λq hq=>by have:=(s5 ho).1 q hq;simpa using this) (λj hj=>by
  have hj':j<l.length:=by simpa using hj
  have:=aag.1 hc j (by simpa using hj')
  exact .inr (.inr ((s5 ho).2 j (gS.1 this)))) (λi o y _ hy=>by simp at hy) (λk=>rfl) rfl rfl (aak l.toArray.size false) a _ E (by simp) (λi o ho hd=>by rw[ik] at hd;cases hd) (λj=>by rw[ik];simp[mJ]) hR'
 rw[hfull] at this
 exact this
section
variable {P:Program} {N:Nat} {ops:Array Oper} {l:List (Nat×Oper)} {o:Oper} {st st' base:St} {x:Inf} {y:Inx} {K:St->Prop} {ys:List Inx} {dn seg:List Nat} {p:Nat}
theorem Nn (hs:BG ops dn seg ys=true) (hk:kls ys=[]) (h:K st):DZ P N ops [] dn seg ys base st K:=⟨hs,st,Ev hk,h⟩
theorem nn {ds:List Nat} {ob:Laa} (hs:BG ops dn seg ys=true) (hk:kls ys=ds) (hA:Fj ds sl ob=some (sl',ob')) (h:K ⟨sl',ob',nx⟩):DZ P N ops [] dn seg ys base ⟨sl,ob,nx⟩ K:=⟨hs,_,Eu hk hA,h⟩
theorem jP (hg:o.guard=none) (h:NS P N o st st' x) (h':DZ P N ops l dn (seg++[p]) (ys++[⟨x,[],none⟩]) base st' K):DZ P N ops ((p,o)::l) dn seg ys base st K:=.inl ⟨_,st',st',.inl ⟨hg,LV h⟩,.refl _,h'⟩
theorem O1 {dj:Tmp} {b:Bool} (hg:o.guard=some (j,b)) (hj:(ops[j]?).bind (·.dst)=some dj) (hdj:nlt dj N=true) (hb:gt st.sl dj=tB b) (h:NS P N o st st' x)
 (h':DZ P N ops l dn (seg++[p]) (ys++[⟨{x with needs:=(.tmp dj,tB b)::x.needs},[],none⟩]) base st' K):DZ P N ops ((p,o)::l) dn seg ys base st K:=.inl ⟨_,st',st',.inr (.inl ⟨j,dj,b,_,hg,hj,dr hdj,hb,LV h,rfl⟩),.refl _,h'⟩
theorem Cc (hg:o.guard=none) (h:NX P N o st st' y) (h':DZ P N ops l dn (seg++[p]) (ys++[y]) base st' K):DZ P N ops ((p,o)::l) dn seg ys base st K:=.inl ⟨_,st',st',.inl ⟨hg,h⟩,.refl _,h'⟩
theorem Xd {dj d:Tmp} {b:Bool} (hg:o.guard=some (j,b)) (hj:(ops[j]?).bind (·.dst)=some dj) {t:T} (hdj:nlt dj N=true) (ht:gt st.sl dj=t) (hb:noG b t=true) (hd:o.dst=some d) (hN:nlt d N=true)
 (h':DZ P N ops l dn (seg++[p]) (ys++[⟨⟨d,[(.tmp dj,t)],[],.tup [],[]⟩,[],none⟩]) base ⟨(d,.tup [])::st.sl,st.ob,st.nx⟩ K):DZ P N ops ((p,o)::l) dn seg ys base st K:=
 .inl ⟨_,_,_,.inr (.inr ⟨j,dj,b,d,hg,hj,dr hdj,by rw[ht];exact hb,hd,dr hN,by rw[ht],rfl⟩),.refl _,h'⟩
theorem fQ {st0 st1:St} (hg:o.guard=none) (h:AWO P N o st0 st1):BO P N ops o st0 st1:=.inl ⟨hg,h⟩
theorem bK:dS N s s:=λ_ E _ _ h=>⟨E,h⟩
theorem Cb {st0 st1:St} (hs:BG ops dn seg ys=true) (hkl:kls ys=[]) (hb:KT ops (seg++dn) p=true) (hw:dS N st st0) (h:BO P N ops o st0 st1) (hw2:dS N st1 st2) {dn':List Nat} (hlo:p::(seg++dn)=dn') (h':DZ P N ops l dn' [] [] st2 st2 K):DZ P N ops ((p,o)::l) dn seg ys base st K:=by
 subst hlo
 exact .inr ⟨hs,hb,st,st0,st1,st2,Ev hkl,hw,h,hw2,h'⟩
theorem PL (h:uK st st2) (hn:NX P N o st2 st' y):∃s',NX P N o st s' y/\uK s' st':=by
 obtain⟨h1,h2,h4,h5,h6,h7⟩:=hn
 refine⟨⟨(y.x.d,y.x.out)::st.sl,y.x.nw++(y.up++st.ob),st'.nx⟩,⟨h1,h2,II (λk=>(h.1 k).symm) h4,by rw[h.2.1];exact h5,by rw[h.2.2];exact h6,rfl⟩,?_⟩
 rw[h7]
 refine⟨λk=>?_,?_,rfl⟩
 .by_cases hk:y.x.d=k
  .subst hk;rw[d4,d4]
  rw[di _ _ hk,di _ _ hk];exact h.1 k
 show y.x.nw++(y.up++st.ob)=y.x.nw++(y.up++st2.ob)
 rw[h.2.1]
theorem O2 (h:uK st st2) (hd:DZ P N ops ((p,o)::l) dn seg ys base st2 K):DZ P N ops ((p,o)::l) dn seg ys base st K:=by
 rcases hd with⟨y,st1,st',hds,hsame,hr⟩|⟨hs,hb,s,st0,st1,st3,hcl,hw,hbo,hw2,hr⟩
 .left
  rcases hds with⟨hg,hn⟩|⟨j,dj,b,z,hg,hj,hdj,hb,hn,rfl⟩|⟨j,dj,b,d,hg,hj,hdj,hb,hd,hN,rfl,rfl⟩
  .obtain⟨s',k1,k2⟩:=PL h hn
   exact⟨y,s',st',.inl ⟨hg,k1⟩,k2.trans hsame,hr⟩
  .obtain⟨s',k1,k2⟩:=PL h hn
   exact⟨_,s',st',.inr (.inl ⟨j,dj,b,z,hg,hj,hdj,by rw[h.1];exact hb,k1,rfl⟩),k2.trans hsame,hr⟩
  refine⟨_,⟨(d,.tup [])::st.sl,st.ob,st.nx⟩,st',.inr (.inr ⟨j,dj,b,d,hg,hj,hdj,by rw[h.1];exact hb,hd,hN,by rw[h.1],rfl⟩),uK.trans (b:=⟨(d,.tup [])::st2.sl,st2.ob,st2.nx⟩) ⟨λk=>?_,h.2.1,h.2.2⟩ hsame,hr⟩
  show gt ((d,T.tup [])::st.sl) k=gt ((d,T.tup [])::st2.sl) k
  by_cases hk:d=k
  .subst hk;rw[d4,d4]
  rw[di _ _ hk,di _ _ hk];exact h.1 k
 exact .inr ⟨hs,hb,s,st0,st1,st3,Nf h hcl,hw,hbo,hw2,hr⟩
theorem TW {d:Tmp} {b:Bool} (hb:gt st.sl d=tB b) (h1:b=true->DZ P N ops ((p,o)::l) dn seg ys base ⟨(d,tB true)::st.sl,st.ob,st.nx⟩ K) (h0:b=false->DZ P N ops ((p,o)::l) dn seg ys base ⟨(d,tB false)::st.sl,st.ob,st.nx⟩ K):DZ P N ops ((p,o)::l) dn seg ys base st K:=by
 cases hc:b with
 |true=>exact O2 (uo hb hc) (h1 hc)
 |false=>exact O2 (uo hb hc) (h0 hc)
theorem Jg {K K':St->Prop} (hk:∀s,K s->K' s):∀{l:List (Nat×Oper)} {dn seg:List Nat} {ys:List Inx} {base st:St},DZ P N ops l dn seg ys base st K->DZ P N ops l dn seg ys base st K'
 |[],_,_,_,_,_,h=>by obtain⟨h1,s,h2,h3⟩:=h;exact⟨h1,s,h2,hk _ h3⟩
 |(p,o)::l,_,_,_,_,_,h=>by
  rcases h with⟨y,st1,st',h1,h2,h3⟩|⟨h1,h2,s,st0,st1,st2,h0,h3,h4,h5,h6⟩
  .exact .inl ⟨y,st1,st',h1,h2,Jg hk h3⟩
  exact .inr ⟨h1,h2,s,st0,st1,st2,h0,h3,h4,h5,Jg hk h6⟩
theorem Xc (M:St) [c:GG N K] (h1:DZ P N ops l dn seg ys base st (λs=>dS N s M)) (h2:K M):DZ P N ops l dn seg ys base st K:=Jg (λs h=>c.h _ _ h h2) h1
end
section
variable {P:Program} {N:Nat} {ops:Array Oper} {l:List (Nat×Oper)} {o:Oper} {sl:Lab} {ob:Laa} {nx:Nat} {base:St} {K:St->Prop} {ys:List Inx} {dn seg:List Nat} {p:Nat}
theorem zgs {dj d:Tmp} {b:Bool} {t:T} (hg:o.guard=some (j,b)) (hj:(ops[j]?).bind (·.dst)=some dj) (hdj:nlt dj N=true) (ht:gt sl dj=t) (hb:noG b t=true) (hd:o.dst=some d) (hN:nlt d N=true)
 (h':DZ P N ops l dn (seg++[p]) (ys++[⟨⟨d,[(.tmp dj,t)],[],.tup [],[]⟩,[],none⟩]) base ⟨(d,.tup [])::sl,ob,nx⟩ K):DZ P N ops ((p,o)::l) dn seg ys base ⟨sl,ob,nx⟩ K:=Xd (st:=⟨sl,ob,nx⟩) hg hj hdj ht hb hd hN h'
theorem zg2 {dj:Tmp} {b c:Bool} (hg:o.guard=some (j,b)) (hj:(ops[j]?).bind (·.dst)=some dj) (hb:gt sl dj=tB c)
 (h1:c=true->DZ P N ops ((p,o)::l) dn seg ys base ⟨(dj,tB true)::sl,ob,nx⟩ K) (h0:c=false->DZ P N ops ((p,o)::l) dn seg ys base ⟨(dj,tB false)::sl,ob,nx⟩ K):DZ P N ops ((p,o)::l) dn seg ys base ⟨sl,ob,nx⟩ K:=TW (st:=⟨sl,ob,nx⟩) hb h1 h0
theorem cwx {d:Tmp} {o:Nat} {x0 x1:Ob} 
 (hF:FnW P f x1 ts' y res) (ht:Bt sl args=some ts:=by exact rfl) (ho:go ob o=some x0:=by exact rfl) (hl:x0.loc=x1:=by exact rfl) (hfx:x0.free=true:=by exact rfl) (hfy:y.free=true:=by exact rfl) (ha:CY [] o ts=some (ts',eqs):=by exact rfl) (he:Eqs eqs:=by repeat (first|exact trivial|refine⟨by first|rfl|exact lm _|simp,?_⟩)) (hi:Fe nx res=some (out,nw,n):=by exact rfl) (hw:LU nx nw n=true:=by exact rfl) (hN:nlt d N=true:=by exact rfl) (hob:apO nw ((o,y)::ob)=some ob':=by exact rfl):
 NX P N ⟨some d,.call ⟨.value (.func f),args.toArray,tys⟩,ty,ps,af,gd⟩ ⟨sl,ob,nx⟩ ⟨(d,out)::sl,ob',n⟩ ⟨⟨d,args.zip ts,[(o,x0)],out,nw⟩,[(o,y)],none⟩:=by
 subst hl
 rw[xA hob]
 obtain⟨t1,t2⟩:=ub ht
 exact⟨vU (QI hF t1 hfx hfy ha he hi),.inl ⟨rfl,dr hN⟩,t2,⟨ho,trivial⟩,DO hw,rfl⟩
theorem A0 {cx:Cx} {o c:Nat} {cs:Array Value} (ok:dJ cx E w) (hr:E.r o=some (b,c)) (hF:¬E.F b):dJ cx E (w.setRow b cs):=by
 have hsz:(w.setRow b cs).heap.size=w.heap.size:=by simp
 refine⟨λk hk=>by rw[hsz];exact ok.fb k hk,ok.gf,ok.gn,λo b c h=>by rw[hsz];exact ok.rb o b c h,ok.inj,ok.os,ok.tape,ok.output,by rw[hsz];exact ok.size,λk hk hW=>?_,ok.pin,ok.ff,λk hg hk'=>(ok.gc k hg hk').of_eq (ea w b k cs (λe=>hF (by subst e;exact hg))),ok.sf.setRow hr⟩
 rw[ea _ _ _ _ (λe=>by
  subst e
  rcases(ok.rb o k c hr).2 with h|h
  .omega
  exact hW h.1)]
 exact ok.block k hk hW
theorem Lc {cx:Cx} {o c:Nat} {cs:Array Value} {ob':Ob} (ok:dJ cx E w) (hr:E.r o=some (b,c)) (hF:¬E.F b):QD [(o,ob')] E w E (w.setRow b cs):=by
 refine⟨λ_ _ h=>h,λ_ h=>h,λ_ h=>h,λ_ h=>.inl h,λk hk hne=>ea w b k cs (λe=>?_),λl ob k c' hm h=>?_,rfl,rfl,rfl⟩
 .subst e;exact hne o ob' c (by simp) hr
 simp at hm;obtain⟨rfl,_⟩:=hm;rw[hr] at h;cases h;exact hF
theorem spx {x y:Operand} {o:Nat} {vt:TypeId} {cs' ns:List C} {v:V} (q:Nat) (hq:aaz N q=true:=by exact rfl) [ht:TyN P t n] (hx:opT sl x= .v (.c (.p o k)):=by exact rfl) (hy:opT sl y= .v v:=by exact rfl) (ho:go ob o=some (.var vt cs):=by exact rfl) (hv:vcs v=some ns:=by exact rfl)
 (hn:d0 ns.length n=true:=by exact rfl) (hst:ns.all C.sto=true:=by exact rfl) (hs:uW k ns cs=some cs':=by exact rfl):
 NX P N ⟨none,.store t x y,ty,ps,af,gd⟩ ⟨sl,ob,nx⟩ ⟨(q,.any)::sl,(o,.var vt cs')::ob,nx⟩ ⟨⟨q,[(x,.v (.c (.p o k))),(y,.v v)],[(o,.var vt cs)],.any,[]⟩,[(o,.var vt cs')],none⟩:=by
 refine⟨vU ?_,.inr ⟨rfl,aaO hq,rfl⟩,⟨hx,hy,trivial⟩,⟨ho,trivial⟩,rfl,rfl⟩
 intro cx E a w ok hne hnob hfr
 have h1:cvT E w (.v (.c (.p o k))) (a.eval x):=hne x _ (.head _)
 have h2:cvT E w (.v v) (a.eval y):=hne y _ (.tail _ (.head _))
 obtain⟨b,c,hr,hu⟩:=h1
 have h3:dm E w o (.var vt cs):=hnob o _ (.head _)
 obtain⟨b',c',arr,hr',hh,hcv,hF⟩:=h3
 rw[hr] at hr';cases hr'
 have hvc:=Kv hv h2
 have hl1:=jK hvc
 have hl2:=jK hcv
 have hnn:=aad hn
 have hle:=(uD hs).2
 have hsz:(a.eval y).cells.size=n:=by simp at hl1;omega
 have hrun:=uE (P:=P) (t:=t) (n:=n) (k:=k) hsz (SU hv hst h2) hh (by simp at hl2;omega)
 unfold Oper.wp
 simp only[execOp,hu,Sem.run_bind,hrun,Result.andThen_ok,Sem.run_pure,Oper.upon_skip,Act.put]
 have hk:=ku (cs:=(arr.toList.take k++(a.eval y).cells.toList++arr.toList.drop (k+n)).toArray) (w:=w) ok hr hF
 refine⟨undef,E,trivial,A0 ok hr hF,?_,trivial,(λ_ _ h=>by cases h),λl ob' hm=>?_,λl p h=>.inl h⟩
 .exact Lc ok hr hF
 simp at hm;obtain⟨rfl,rfl⟩:=hm
 refine⟨b,c,_,hr,jm _ hh,?_,hF⟩
 refine sq hk (BZ hs hvc hcv ?_ λi=>?_)
 .simp at hl2 ⊢;omega
 rw[show(arr.toList.take k++(a.eval y).cells.toList++arr.toList.drop (k+n)).toArray.toList=arr.toList.take k++(a.eval y).cells.toList++arr.toList.drop (k+n) from rfl]
 exact nq (by simpa using hsz) (by simp at hl2 ⊢;omega) i
end
def sw (p q l:Nat):Nat:=bif d0 l p then q else bif d0 l q then p else l
theorem IV (a b:Nat):d0 a b=decide (a=b):=by
 by_cases h:a=b
 .subst h;simp
 rw[nH h];simp[h]
theorem Gv (p q l:Nat):sw p q (sw p q l)=l:=by
 unfold sw
 simp only[IV]
 by_cases h1:l=p
 .subst h1
  by_cases h2:q=l
  .simp[h2]
  simp[h2]
 by_cases h2:l=q
 .subst h2;simp[h1]
 simp[h1,h2]
theorem sw_inj {a:Nat} (h:sw p q a=sw p q b):a=b:=by rw[<-Gv p q a,h,Gv]
theorem V2 (hp:rsv p=false) (hq:rsv q=false) (l:Nat):(rsv l=true->sw p q l=l)/\(rsv (sw p q l)=true->sw p q l=l):=by
 unfold sw
 simp only[IV]
 by_cases h1:l=p
 .subst h1;simp[hp,hq]
 by_cases h2:l=q
 .subst h2;simp[h1,hp,hq]
 simp[h1,h2]
theorem sw_lt (hp:p<n) (hq:q<n) (h:sw p q l<n):l<n:=by
 rw[<-Gv p q l]
 generalize sw p q l=m at h
 unfold sw
 simp only[IV]
 by_cases h1:m=p
 .subst h1;simp[hq]
 by_cases h2:m=q
 .subst h2;simp[h1,hp]
 simp[h1,h2,h]
def swC (p q:Nat):C->C
 | .w o n=>.w (sw p q o) n
 | .wn o n=>.wn (sw p q o) n
 | .s o a b c=>.s (sw p q o) a b c
 | .p o k=>.p (sw p q o) k
 | .e o a b c=>.e (sw p q o) a b c
 |c=>c
def Yr (p q:Nat):List C->List C
 |[]=>[]
 |c::cs=>swC p q c::Yr p q cs
def swV (p q:Nat):V->V
 | .c c=>.c (swC p q c)
 | .agg cs=>.agg (Yr p q cs)
def swVs (p q:Nat):List V->List V
 |[]=>[]
 |c::cs=>swV p q c::swVs p q cs
def swT (p q:Nat):T->T
 | .v v=>.v (swV p q v)
 | .tup vs=>.tup (swVs p q vs)
 | .any=>.any
def swOb (p q:Nat):Ob->Ob
 | .var t cs=>.var t (Yr p q cs)
 |o=>o
def swS (p q:Nat):Lab->Lab
 |[]=>[]
 |(k,t)::r=>(k,swT p q t)::swS p q r
def swO (p q:Nat):Laa->Laa
 |[]=>[]
 |(k,t)::r=>(sw p q k,swOb p q t)::swO p q r
def Env.sw (E:Env) (p q:Nat):Env:={E with r:=λl=>E.r (AM.sw p q l),n:=λl=>E.n (AM.sw p q l)}
theorem V0 {c:C} (h:cvC E w c u):cvC (E.sw p q) w (swC p q c) u:=by
 have e:∀o,(E.sw p q).r (sw p q o)=E.r o:=λo=>by simp[Env.sw,Gv]
 cases c with
 |w o n=>obtain⟨b,c,h1,h2⟩:=h;exact⟨b,c,(e o).trans h1,h2⟩
 |wn o n=>
  have e2:(E.sw p q).n (sw p q o)=E.n o:=by simp[Env.sw,Gv]
  rcases h with⟨h1,h2⟩|⟨h0,b,c,h1,h2⟩
  .exact .inl ⟨by rw[e2];exact h1,h2⟩
  exact .inr ⟨by rw[e2];exact h0,b,c,(e o).trans h1,h2⟩
 |s o a b c=>obtain⟨A,c',b',k,h1,h2⟩:=h;exact⟨A,c',b',k,(e o).trans h1,h2⟩
 |p o k=>obtain⟨b,c,h1,h2⟩:=h;exact⟨b,c,(e o).trans h1,h2⟩
 |e o a b c=>obtain⟨b',c',h1,h2⟩:=h;exact⟨b',c',(e o).trans h1,h2⟩
 |_=>exact h
theorem Kr {E:Env} {w:World} {p q:Nat}:∀{cs:List C} {us:Lae},CV E w cs us->CV (E.sw p q) w (Yr p q cs) us
 |[],[],h=>h
 |[],_::_,h=>h.elim
 |_::_,[],h=>h.elim
 |_::_,_::_,h=>⟨V0 h.1,Kr h.2⟩
theorem V1 {c:V} (h:cvV E w c u):cvV (E.sw p q) w (swV p q c) u:=by
 cases c with
 |c c=>exact V0 h
 |agg cs=>obtain⟨arr,h1,h2⟩:=h;exact⟨arr,h1,Kr h2⟩
theorem Qo {E:Env} {w:World} {p q:Nat}:∀{cs:List V} {us:Lae},VV E w cs us->VV (E.sw p q) w (swVs p q cs) us
 |[],[],h=>h
 |[],_::_,h=>h.elim
 |_::_,[],h=>h.elim
 |_::_,_::_,h=>⟨V1 h.1,Qo h.2⟩
theorem swT_ok {t:T} (h:cvT E w t u):cvT (E.sw p q) w (swT p q t) u:=by
 cases t with
 |v v=>exact V1 h
 |tup vs=>obtain⟨arr,h1,h2⟩:=h;exact⟨arr,h1,Qo h2⟩
 |any=>trivial
theorem Ys {o:Nat} {ob:Ob} (h:dm E w (sw p q o) ob):dm (E.sw p q) w o (swOb p q ob):=by
 cases ob with
 |var t cs=>obtain⟨b,c,arr,h1,h2,h3,h4⟩:=h;exact⟨b,c,arr,h1,h2,Kr h3,h4⟩
 |row t sz els g m=>exact h
 |rown t sz els g=>exact h
 |abs l y=>exact h
theorem Uj {p q:Nat}:∀(sl:Lab) (k:Nat),gt (swS p q sl) k=swT p q (gt sl k)
 |[],k=>rfl
 |(j,t)::r,k=>by
  simp only[swS,gt]
  cases d0 j k
  .exact Uj r k
  rfl
theorem Ui {p q:Nat}:∀(ob:Laa) (o:Nat),go (swO p q ob) o=(go ob (sw p q o)).map (swOb p q)
 |[],o=>rfl
 |(j,t)::r,o=>by
  simp only[swO,go,IV]
  by_cases h:j=sw p q o
  .subst h;simp[Gv]
  have h2:sw p q j≠o:=λe=>h (by rw[<-e,Gv])
  simp only[h,h2,decide_false,cond_false]
  exact Ui r o
theorem MT {ob:Laa} (hp:rsv p=false:=by exact rfl) (hq:rsv q=false:=by exact rfl) (hpn:nlt p nx=true:=by exact rfl) (hqn:nlt q nx=true:=by exact rfl):dS N ⟨sl,ob,nx⟩ ⟨swS p q sl,swO p q ob,nx⟩:=by
 intro cx E a w hR
 have ok:=hR.ok
 refine⟨E.sw p q,⟨ok.fb,ok.gf,ok.gn,λo b c h=>?_,λo o' b c c' h h'=>sw_inj (ok.inj _ _ _ _ _ h h'),ok.os,ok.tape,ok.output,ok.size,ok.block,λo x hr h=>?_,ok.ff,ok.gc,?_⟩,λo x h=>sw_lt (dr hpn) (dr hqn) (hR.dom _ x h),λo ob' h=>?_,λk=>?_,hR.dfr,hR.size,hR.td⟩
 .obtain⟨h1,h2⟩:=ok.rb _ b c h
  refine⟨h1,h2.imp id λh3=>⟨h3.1,?_⟩⟩
  have:=(V2 hp hq o).2 h3.2
  rw[this] at h3;exact h3.2
 .have h':E.r (sw p q o)=some x:=h
  rw[(V2 hp hq o).1 (J1 hr)] at h'
  exact ok.pin o x hr h'
 .have sf:=ok.sf
  exact⟨λl b h=>⟨(sf.tb l b h).1,(sf.tb l b h).2.1,λo c=>(sf.tb l b h).2.2.1 _ c,(sf.tb l b h).2.2.2⟩,sf.tt,λb h=>⟨(sf.zc b h).1,(sf.zc b h).2.1,λo c=>(sf.zc b h).2.2.1 _ c,(sf.zc b h).2.2.2⟩,sf.zs,sf.ze⟩
 .rw[Ui] at h
  cases hg:go ob (sw p q o) with
  |none=>rw[hg] at h;cases h
  |some x=>rw[hg] at h;cases h;exact Ys (hR.obs _ x hg)
 rw[Uj];exact swT_ok (hR.sl k)
def wnC (o n:Nat):C->C
 | .w k m=>bif d0 k o then .w k n else .w k m
 | .wn k m=>bif d0 k o then .wn k n else .wn k m
 |c=>c
def Wr (o n:Nat):C->Lac
 | .w k m=>bif d0 k o then [(m,n)] else []
 | .wn k m=>bif d0 k o then [(m,n)] else []
 |_=>[]
def Wq (o n:Nat):List C->List C
 |[]=>[]
 |c::cs=>wnC o n c::Wq o n cs
def MU (o n:Nat):List C->Lac
 |[]=>[]
 |c::cs=>Wr o n c++MU o n cs
def wnT (o n:Nat):T->T
 | .v (.c c)=>.v (.c (wnC o n c))
 | .v (.agg cs)=>.v (.agg (Wq o n cs))
 |t=>t
def wnET (o n:Nat):T->Lac
 | .v (.c c)=>Wr o n c
 | .v (.agg cs)=>MU o n cs
 |_=>[]
def wnS (o n:Nat):Lab->Lab
 |[]=>[]
 |(k,t)::r=>(k,wnT o n t)::wnS o n r
def Sr (o n:Nat):Lab->Lac
 |[]=>[]
 |(_,t)::r=>wnET o n t++Sr o n r
def wnO (o n:Nat):Laa->Laa
 |[]=>[]
 |(k,.var t cs)::r=>(k,.var t (Wq o n cs))::wnO o n r
 |p::r=>p::wnO o n r
def OF (o n:Nat):Laa->Lac
 |[]=>[]
 |(_,.var _ cs)::r=>MU o n cs++OF o n r
 |_::r=>OF o n r
theorem Wo {o:Nat} {c:C} (he:Eqs (Wr o n c)) (h:cvC E w c u):cvC E w (wnC o n c) u:=by
 cases c with
 |w k m=>
  simp only[wnC,Wr] at he ⊢
  cases hk:d0 k o with
  |false=>exact h
  |true=>rw[hk] at he;have:m=n:=he.1;subst this;exact h
 |wn k m=>
  simp only[wnC,Wr] at he ⊢
  cases hk:d0 k o with
  |false=>exact h
  |true=>rw[hk] at he;have:m=n:=he.1;subst this;exact h
 |_=>exact h
theorem Ky {E:Env} {w:World} {o n:Nat}:∀{cs:List C} {us:Lae},Eqs (MU o n cs)->CV E w cs us->CV E w (Wq o n cs) us
 |[],[],_,h=>h
 |[],_::_,_,h=>h.elim
 |_::_,[],_,h=>h.elim
 |_::_,_::_,he,h=>by obtain⟨h1,h2⟩:=eY he;exact⟨Wo h1 h.1,Ky h2 h.2⟩
theorem wnT_ok {o:Nat} {t:T} (he:Eqs (wnET o n t)) (h:cvT E w t u):cvT E w (wnT o n t) u:=by
 cases t with
 |v v=>
  cases v with
  |c c=>exact Wo he h
  |agg cs=>obtain⟨arr,h1,h2⟩:=h;exact⟨arr,h1,Ky he h2⟩
 |_=>exact h
theorem Wn {o:Nat} {ob:Laa} (he:Eqs (Sr o n sl)) (he2:Eqs (OF o n ob)):dS N ⟨sl,ob,nx⟩ ⟨wnS o n sl,wnO o n ob,nx⟩:=by
 intro cx E a w hR
 refine⟨E,hR.ok,hR.dom,λp x h=>?_,λk=>?_,hR.dfr,hR.size,hR.td⟩
 .have key:∀(ob:Laa) (x:Ob),Eqs (OF o n ob)->go (wnO o n ob) p=some x->∃y,go ob p=some y/\(dm E w p y->dm E w p x):=by
   intro ob
   induction ob with
   |nil=>intro x _ h;cases h
   |cons q r ih=>
    intro x he h
    obtain⟨k,v⟩:=q
    cases v with
    |var t cs=>
     obtain⟨h1,h2⟩:=eY (show Eqs (MU o n cs++OF o n r) from he)
     simp only[wnO,go] at h ⊢
     cases hk:d0 k p with
     |false=>rw[hk] at h;exact ih x h2 h
     |true=>
      rw[hk] at h
      cases h
      exact⟨_,rfl,λ⟨b,c,arr,k1,k2,k3,k4⟩=>⟨b,c,arr,k1,k2,Ky h1 k3,k4⟩⟩
    |row t sz els g m=>
     simp only[wnO,go] at h ⊢
     cases hk:d0 k p with
     |false=>rw[hk] at h;exact ih x he h
     |true=>rw[hk] at h;cases h;exact⟨_,rfl,id⟩
    |rown t sz els g=>
     simp only[wnO,go] at h ⊢
     cases hk:d0 k p with
     |false=>rw[hk] at h;exact ih x he h
     |true=>rw[hk] at h;cases h;exact⟨_,rfl,id⟩
    |abs l y=>
     simp only[wnO,go] at h ⊢
     cases hk:d0 k p with
     |false=>rw[hk] at h;exact ih x he h
     |true=>rw[hk] at h;cases h;exact⟨_,rfl,id⟩
  obtain⟨y,h1,h2⟩:=key ob x he2 h
  exact h2 (hR.obs p y h1)
 have key:∀(sl:Lab),Eqs (Sr o n sl)->(cvT E w (gt sl k) (a.tmps.getD k undef)->cvT E w (gt (wnS o n sl) k) (a.tmps.getD k undef)):=by
  intro sl
  induction sl with
  |nil=>intro _ h;exact h
  |cons q r ih=>
   intro he h
   obtain⟨j,t⟩:=q
   obtain⟨h1,h2⟩:=eY (show Eqs (wnET o n t++Sr o n r) from he)
   simp only[wnS,gt] at h ⊢
   cases hj:d0 j k with
   |false=>rw[hj] at h;exact ih h2 h
   |true=>rw[hj] at h;exact wnT_ok h1 h
 exact key sl he (hR.sl k)
theorem clo_w {AQ:Exit->St->Prop} {e:Exit} {m:St} [c:Clo N AQ] (hw:dS N s m) (h:AQ e m):AQ e s:=c.h _ _ _ hw h
def nlC:C->C
 | .nil=>.d true (.l [])
 |c=>c
def nlCs:List C->List C
 |[]=>[]
 |c::cs=>nlC c::nlCs cs
theorem nlC_ok {c:C} (h:cvC E w c u):cvC E w (nlC c) u:=by
 cases c with
 |nil=>
  have h:u= .slice none 0 0:=h
  subst h
  show rdD _ _ _ _
  rw[rdD]
  exact⟨none,0,rfl,aah _,.inl rfl⟩
 |_=>exact h
theorem PF {E:Env} {w:World}:∀{cs:List C} {us:Lae},CV E w cs us->CV E w (nlCs cs) us
 |[],[],h=>h
 |[],_::_,h=>h.elim
 |_::_,[],h=>h.elim
 |_::_,_::_,h=>⟨nlC_ok h.1,PF h.2⟩
theorem MR {o:Nat} {ob:Laa} (ho:go ob o=some (.var ty cs):=by exact rfl):dS N ⟨sl,ob,nx⟩ ⟨sl,(o,.var ty (nlCs cs))::ob,nx⟩:=by
 intro cx E a w hR
 refine⟨E,hR.ok,hR.dom,λp x h=>?_,hR.sl,hR.dfr,hR.size,hR.td⟩
 by_cases hp:o=p
 .subst hp
  rw[cU] at h;cases h
  obtain⟨b,c,arr,h1,h2,h3,h4⟩:=hR.obs o _ ho
  exact⟨b,c,arr,h1,h2,PF h3,h4⟩
 rw[b7 _ _ hp] at h;exact hR.obs p x h
def zv (o n:Nat):Lab->Option Lab
 |[]=>some []
 |(k,.v (.c c))::r=>match zv o n r with
  |some r'=>match c with
   | .w q m=>bif d0 q o then some ((k,.v (.c (.w q n)))::r') else some ((k,.v (.c (.w q m)))::r')
   | .wn q m=>bif d0 q o then some ((k,.v (.c (.wn q n)))::r') else some ((k,.v (.c (.wn q m)))::r')
   |c=>some ((k,.v (.c c))::r')
  |none=>none
 |(k,t)::r=>match zv o n r with
  |some r'=>some ((k,wnT o n t)::r')
  |none=>none
theorem QA {o n:Nat}:∀{sl sl':Lab},zv o n sl=some sl'->sl'=wnS o n sl
 |[],sl',h=>by simp[zv] at h;subst h;rfl
 |(k,t)::r,sl',h=>by
  cases hr:zv o n r with
  |none=>
   exfalso
   cases t with
   |v v=>cases v<;>simp[zv,hr] at h
   |tup vs=>simp[zv,hr] at h
   |any=>simp[zv,hr] at h
  |some r'=>
   have:=QA hr
   subst this
   cases t with
   |v v=>
    cases v with
    |c c=>
     cases c with
     |w q m=>
      simp only[zv,hr] at h
      simp only[wnS,wnT,wnC]
      cases hq:d0 q o<;>rw[hq] at h<;>cases h<;>rfl
     |wn q m=>
      simp only[zv,hr] at h
      simp only[wnS,wnT,wnC]
      cases hq:d0 q o<;>rw[hq] at h<;>cases h<;>rfl
     |_=>simp only[zv,hr] at h;cases h;rfl
    |agg cs=>simp only[zv,hr] at h;cases h;rfl
   |tup vs=>simp only[zv,hr] at h;cases h;rfl
   |any=>simp only[zv,hr] at h;cases h;rfl
def Kz (o n:Nat):Laa->Option Laa
 |[]=>some []
 |(k,.var t cs)::r=>match Kz o n r with
  |some r'=>some ((k,.var t (Wq o n cs))::r')
  |none=>none
 |p::r=>match Kz o n r with
  |some r'=>some (p::r')
  |none=>none
theorem Qz {o n:Nat}:∀{sl sl':Laa},Kz o n sl=some sl'->sl'=wnO o n sl
 |[],sl',h=>by simp[Kz] at h;subst h;rfl
 |(k,t)::r,sl',h=>by
  cases hr:Kz o n r with
  |none=>exfalso;cases t<;>simp[Kz,hr] at h
  |some r'=>
   have:=Qz hr
   subst this
   cases t<;>simp only[Kz,hr] at h<;>cases h<;>rfl
theorem vO {o:Nat} {ob:Laa} (hs:zv o n sl=some sl':=by exact rfl) (ho:Kz o n ob=some ob':=by exact rfl) (he:Eqs (Sr o n sl):=by repeat (first|exact trivial|refine⟨by first|rfl|simp,?_⟩)) (he2:Eqs (OF o n ob):=by repeat (first|exact trivial|refine⟨by first|rfl|simp,?_⟩)):dS N ⟨sl,ob,nx⟩ ⟨sl',ob',nx⟩:=by
 rw[QA hs,Qz ho];exact Wn he he2
section
variable {P:Program} {N:Nat} {d:Tmp} {ty:TypeId} {ps:String} {af:Array Edge} {gd:Option (Nat×Bool)} {x y z:Operand}
def Env.mv (E:Env) (o q b c:Nat):Env:={E with r:=λl=>if l=q then some (b,c) else if l=o then none else E.r l}
theorem LC {o:Nat} {ys:Lad} {c:C} [ht:eB P t e sz by_] (hrv:rsv o=false)
 (ho:go nob o=some (.row e sz els g true)) (hs:Src nob c ys gy) (hn:els.length=n) (hsz:∀e∈ys,e.length=sz) (hb:(n+ys.length)*by_<=140737488355328) (h63:n+ys.length<=9223372036854775807):
 AWK P ⟨some d,.call ⟨.builtin .append,#[x,y],#[t,t]⟩,ty,ps,af,gd⟩ [(x,.v (.c (.w o n))),(y,.v (.c c))] nob (.v (.c (.w q (n+ys.length)))) [(q,.row e sz (els++ys) (g&&gy) true)] [] (some o):=by
 intro cx E a w ok hne hnob hfr
 have hob:∀l x,go nob l=some x->dm E w l x:=λl x h=>hnob l x (Aa h)
 obtain⟨hq1,hq2⟩:=hfr q _ (.head _)
 have h1:cvT E w (.v (.c (.w o n))) (a.eval x):=hne x _ (.head _)
 have h2:cvT E w (.v (.c c)) (a.eval y):=hne y _ (.tail _ (.head _))
 obtain⟨b,cc,hr,hu⟩:=h1
 obtain⟨b',c',arr,hr',hh,ha,hlc,hmx,hes,hrd,hFm,_⟩:=hob o _ ho
 rw[hr] at hr';cases hr'
 have hF:=hFm rfl
 have hoq:o≠q:=λe=>by rw[e,hq1] at hr;cases hr
 obtain⟨A,k,hv,hyk,hA⟩:=D3 hob hs h2
 obtain⟨ii,zz,i1,i2,i3,i4,i5⟩:=ht.i
 have hbl:=(ok.rb o b cc hr)
 have hown:w.ownsRow 0 e sz (.slice (some ⟨b,0,none⟩) n cc) n (arr.toList.take (n*sz)):=
  ⟨by simp[ha];rw[aaF oaa],.inr ⟨b,cc,arr,rfl,aas _,hh,by omega,hmx,ha,rfl⟩⟩
 have hsrc:∃news:Lae,news.length=ys.length*sz/\(∀u∈news,u.oneCell'=true)/\(∀(j:Nat) (xd:D),ys.flatten[j]?=some xd->∃u,news[j]?=some u/\rdD w (E.H gy) xd u)/\
  ∃v' w',(Builtin.append_ #[t,t] ty #[.slice (some ⟨b,0,none⟩) n cc,.slice A ys.length k]).run P w= .ok v' w'/\w'.ownsRow 0 e sz v' (n+ys.length) (arr.toList.take (n*sz)++news)/\w.grownBy w' (some b)/\v'≠.slice none 0 0/\(v'.ownBlock=some b\/v'.ownBlock=some w.heap.size):=by
  have hgood:∀ad,A=some ad->∀news:Lae,news.length=ys.length*sz->(∀(j:Nat) (u:Value),news[j]?=some u->w.cell? (ad.add j)=some u)->(∀u∈news,u.oneCell'=true)->
   ∃v' w',(Builtin.append_ #[t,t] ty #[.slice (some ⟨b,0,none⟩) n cc,.slice A ys.length k]).run P w= .ok v' w'/\w'.ownsRow 0 e sz v' (n+ys.length) (arr.toList.take (n*sz)++news)/\w.grownBy w' (some b)/\v'≠.slice none 0 0/\(v'.ownBlock=some b\/v'.ownBlock=some w.heap.size):=by
   intro ad hAd news n1 n2 n3
   obtain⟨v',w',r1,r2,r3,r4,r5⟩:=run_append_own_at (P:=P) w 0 t ty e ii zz sz by_ ht.u i1 i4 i2 i3 i5 ht.p _ n _ hown ad ys.length k news n1 n2 n3 (by unfold maxLen;omega) hb (aas _)
   exact⟨v',w',by rw[hAd];exact r1,r2,r3,(λh=>by have h9:=(r4.1 h).1;simp at h9),r5⟩
  rcases hA with h0|⟨b2,off,rfl,hrd2⟩
  .subst h0
   refine⟨[],by simp,by simp,by simp,?_⟩
   cases A with
   |none=>exact⟨_,w,s6 w ht.u i1 hown k,by simpa using hown,⟨rfl,rfl,rfl,aah _,λ_ _ _=>rfl⟩,by simp,.inl rfl⟩
   |some ad=>exact hgood ad rfl [] (by simp) (by simp) (by simp)
  obtain⟨us,q1,q2,q3,q4⟩:=vw (fF.1 hrd2)
  exact⟨us,by rw[q1,gO hsz],q3,q4,hgood _ rfl us (by rw[q1,gO hsz]) q2 q3⟩
 obtain⟨news,n1,n2,n3,v',w',r1,r2,r3,r4,r5⟩:=hsrc
 obtain⟨_,r2⟩:=r2
 rcases r2 with⟨rfl,_⟩|⟨bn,cap,cur,rfl,_,hhn,hcap,hcapm,hcur,htk⟩
 .exact absurd rfl r4
 unfold Oper.wp
 simp only[execOp,resolve,invoke,builtin,Sem.run_bind,Sem.run_pure,Result.andThen_ok,abn,aaB,abd,hu,hv,r1,Oper.upon_value]
 have hbn:bn=b\/bn=w.heap.size:=by simpa [Value.ownBlock] using r5
 have hsame:∀k,k<w.heap.size->k≠b->w'.heap[k]?=w.heap[k]?:=λk hk hne=>r3.block k hk (λe=>hne (by injection e))
 have hnF:¬E.F bn:=by
  rcases hbn with rfl|rfl
  .exact hF
  exact λh=>by have:=ok.fb _ h;omega
 have hbig:bn<w'.heap.size:=by
  rcases aao bn w'.heap.size with h|h
  .exact h
  rw[aaw h] at hhn;cases hhn
 have hnew:∀l bl cl,l≠o->E.r l=some (bl,cl)->bl≠bn:=by
  intro l bl cl hne hl e
  subst e
  rcases hbn with h|h
  .subst h;exact hne (ok.inj l o _ _ _ hl hr)
  have:=(ok.rb l bl cl hl).1;omega
 have hHb:∀g k,E.H g k->k≠b/\k<w.heap.size:=λg k hk=>⟨λe=>by subst e;cases g;exact hF hk;exact hF (ok.gf _ hk),ok.hb hk⟩
 have kH:∀(g:Bool) (k:Nat),E.H g k->w'.heap[k]?=w.heap[k]?:=λg k hk=>hsame k (hHb g k hk).2 (hHb g k hk).1
 have kI:∀(g:Bool) (k:Nat),E.H g k->(E.mv o q bn cap).H g k:=λ_ _ h=>h
 have hbnew:cx.w0.heap.size<=b:=by
  rcases hbl.2 with h|h
  .exact h
  rw[hrv] at h;cases h.2
 have hmv:∀l bl cl,(E.mv o q bn cap).r l=some (bl,cl)->(l=q/\bl=bn/\cl=cap)\/(l≠q/\l≠o/\E.r l=some (bl,cl)):=by
  intro l bl cl hl
  simp only[Env.mv] at hl
  split at hl
  .cases hl;exact .inl ⟨by assumption,rfl,rfl⟩
  split at hl
  .cases hl
  exact .inr ⟨by assumption,by assumption,hl⟩
 refine⟨_,E.mv o q bn cap,rfl,⟨λk hk=>aau (ok.fb k hk) r3.size,ok.gf,ok.gn,λl bl cl hl=>?_,λl l' bl cl cl' hl hl'=>?_,by rw[r3.os];exact ok.os,by rw[r3.tape];exact ok.tape,by rw[r3.output];exact ok.output,aba ok.size r3.size,λk hk hW=>?_,λl xx hv hl=>?_,ok.ff,λk hk hk'=>(ok.gc k hk hk').of_eq (hsame k (hHb false k hk).2 (hHb false k hk).1),ok.sf.turn hr rfl rfl (λ_ h=>.inl h) (λl bl cl hl=>?_) r3.size hsame⟩,
  ⟨λl xx hl hlr=>?_,λ_ h=>h,λ_ h=>h,λ_ h=>.inl h,λk hk _ hkl=>hsame k hk (λe=>hkl o cc rfl (e▸hr)),(λ_ _ _ _ h=>by cases h),λl bl cl hl hlr=>?_,rfl,rfl,rfl⟩,⟨bn,cap,by simp[Env.mv],rfl⟩,λl ob hm=>?_,(λ_ _ h=>by cases h),λl xx hl=>?_⟩
 .rcases hmv l bl cl hl with⟨_,rfl,rfl⟩|⟨_,_,hl⟩
  .refine⟨hbig,.inl ?_⟩
   rcases hbn with h|h
   .rw[h];exact hbnew
   rw[h];exact ok.size
  have:=ok.rb l bl cl hl;exact⟨aau this.1 r3.size,this.2⟩
 .rcases hmv l bl cl hl with⟨h1,h2,h3⟩|⟨h1,h2,h3⟩<;>rcases hmv l' bl cl' hl' with⟨k1,k2,k3⟩|⟨k1,k2,k3⟩
  .omega
  .exact absurd h2 (hnew l' _ _ k2 k3)
  .exact absurd k2 (hnew l _ _ h2 h3)
  exact ok.inj l l' bl cl cl' h3 k3
 .rw[hsame k (by have:=ok.size;omega) oaa];exact ok.block k hk hW
 .obtain⟨bl,cl⟩:=xx
  rcases hmv l bl cl hl with⟨rfl,_⟩|⟨_,_,hl⟩
  .rw[rJ hq2] at hv;cases hv
  exact ok.pin l _ hv hl
 .rcases hmv l bl cl hl with⟨_,rfl,_⟩|⟨_,_,hl⟩
  .rcases hbn with h|h
   .left;exact⟨o,_,h▸hr⟩
   right;omega
  exact .inl ⟨l,cl,hl⟩
 .simp only[Env.mv]
  rw[if_neg (λe=>by rw[e,hq1] at hlr;cases hlr),if_neg (λe=>hl (by rw[e]))]
  exact hlr
 .cases hl
  rw[hr] at hlr;cases hlr;exact hF
 .simp at hm;obtain⟨rfl,rfl⟩:=hm
  have hall:∀e'∈els++ys,e'.length=sz:=λe' he'=>by
   rcases aac.1 he' with h|h
   .exact hes e' h
   exact hsz e' h
  refine⟨bn,cap,cur,by simp[Env.mv],hhn,hcur,by simp;omega,hcapm,hall,?_,λ_=>hnF,λh=>by cases h⟩
  rw[fF]
  refine oT λj xd hj=>?_
  rw[aaj,fa hhn]
  rw[abe] at hj
  have hfl:els.flatten.length=n*sz:=by rw[gO hes,hn]
  have hxs:(arr.toList.take (n*sz)).length=n*sz:=by simp[ha];rw[aaF oaa]
  have hcurj:∀u,(arr.toList.take (n*sz)++news)[j]?=some u->cur[j]?=some u:=by
   intro u hu
   rw[<-htk,aat] at hu
   split at hu
   .simpa using hu
   cases hu
  by_cases hjn:j<n*sz
  .rw[aal oaa] at hj
   obtain⟨u,u1,u2⟩:=nO (fF.1 hrd) hj
   rw[aaj,fa hh] at u1
   refine⟨u,hcurj u ?_,cW (kH _) (kI _) _ _ (pF ok u2 (by simp;intro a _;exact a))⟩
   rw[aal oaa,aat,if_pos hjn]
   simpa using u1
  rw[aan oaa,hfl] at hj
  obtain⟨u,u1,u2⟩:=n3 _ _ hj
  refine⟨u,hcurj u ?_,cW (kH _) (kI _) _ _ (pF ok u2 (by simp))⟩
  rw[aan oaa,hxs]
  exact u1
 obtain⟨bl,cl⟩:=xx
 rcases hmv l bl cl hl with⟨rfl,_⟩|⟨_,_,hl⟩
 .exact .inr ⟨_,.head _⟩
 exact .inl hl
theorem xa {ys:Lad} {c:C} [ht:eB P t e sz by_]
 (hs:Src nob c ys gy) (hne0:ys≠[]) (hsz:∀e∈ys,e.length=sz) (hb:ys.length*by_<=140737488355328) (h63:ys.length<=9223372036854775807)
 {cx:Cx} (ok:dJ cx E w) (hob:∀l x,go nob l=some x->dm E w l x) (hq1:E.r q=none) (hq2:rsv q=false) (hu:a.eval x= .slice none 0 0) (h2:cvT E w (.v (.c c)) (a.eval y)):
 Oper.wp P ⟨some d,.call ⟨.builtin .append,#[x,y],#[t,t]⟩,ty,ps,af,gd⟩ a w (λa' w'=>∃v E',a'=a.put (some d) v/\dJ cx E' w'/\Ext E w E' w'/\cvT E' w' (.v (.c (.w q ys.length))) v/\(∀l ob,(l,ob)∈[(q,Ob.row e sz ys gy true)]->dm E' w' l ob)/\
  (∀l x,E'.r l=some x->E.r l=some x\/∃ob,(l,ob)∈[(q,Ob.row e sz ys gy true)])) (λ_ _ _=>False):=by
 obtain⟨A,k,hv,hyk,hA⟩:=D3 hob hs h2
 obtain⟨ii,zz,i1,i2,i3,i4,i5⟩:=ht.i
 have hown:=World.ownsRow_nil w 0 e sz
 rcases hA with h0|⟨b2,off,rfl,hrd2⟩
 .exact absurd h0 hne0
 obtain⟨news,q1,q2,q3,n3⟩:=vw (fF.1 hrd2)
 have n1:news.length=ys.length*sz:=by rw[q1,gO hsz]
 obtain⟨v',w',r1,r2,r3,r4,r5⟩:=run_append_own_at (P:=P) w 0 t ty e ii zz sz by_ ht.u i1 i4 i2 i3 i5 ht.p _ 0 _ hown ⟨b2,off,none⟩ ys.length k news n1 q2 q3 (by unfold maxLen;omega) (by simpa using hb) (aas _)
 have hnn:v'≠.slice none 0 0:=λh=>hne0 (aaL (r4.1 h).2)
 obtain⟨_,r2⟩:=r2
 rcases r2 with⟨rfl,_⟩|⟨bn,cap,cur,rfl,_,hhn,hcap,hcapm,hcur,htk⟩
 .exact absurd rfl hnn
 simp only[aaj,aa8] at r1 hcap htk hnn r4 r5
 unfold Oper.wp
 simp only[execOp,resolve,invoke,builtin,Sem.run_bind,Sem.run_pure,Result.andThen_ok,abn,aaB,abd,hu,hv,r1,Oper.upon_value]
 have hbn:bn=w.heap.size:=by simpa [Value.ownBlock] using r5
 have hsame:∀k,k<w.heap.size->w'.heap[k]?=w.heap[k]?:=λk hk=>r3.block k hk (λe=>by simp[Value.ownBlock] at e)
 have hnF:¬E.F bn:=λh=>by have:=ok.fb _ h;omega
 have hbig:bn<w'.heap.size:=by
  rcases aao bn w'.heap.size with h|h
  .exact h
  rw[aaw h] at hhn;cases hhn
 have kH:∀(g:Bool) (k:Nat),E.H g k->w'.heap[k]?=w.heap[k]?:=λg k hk=>hsame k (ok.hb hk)
 have kI:∀(g:Bool) (k:Nat),E.H g k->(E.new q bn cap).H g k:=λ_ _ h=>h
 have hmv:∀l bl cl,(E.new q bn cap).r l=some (bl,cl)->(l=q/\bl=bn/\cl=cap)\/(l≠q/\E.r l=some (bl,cl)):=by
  intro l bl cl hl
  simp only[Env.new] at hl
  split at hl
  .cases hl;exact .inl ⟨by assumption,rfl,rfl⟩
  exact .inr ⟨by assumption,hl⟩
 refine⟨_,E.new q bn cap,rfl,⟨λk hk=>aau (ok.fb k hk) r3.size,ok.gf,ok.gn,λl bl cl hl=>?_,λl l' bl cl cl' hl hl'=>?_,by rw[r3.os];exact ok.os,by rw[r3.tape];exact ok.tape,by rw[r3.output];exact ok.output,aba ok.size r3.size,λk hk hW=>?_,λl xx hv hl=>?_,ok.ff,λk hk hk'=>(ok.gc k hk hk').of_eq (hsame k (ok.fb k hk)),ok.sf.grow rfl rfl (λ_ h=>.inl h) (λl bl cl hl=>?_) r3.size hsame⟩,
  ⟨λl xx hlr=>?_,λ_ h=>h,λ_ h=>h,λ_ h=>.inl h,hsame,rfl,rfl,rfl⟩,⟨bn,cap,by simp[Env.new],rfl⟩,λl ob hm=>?_,λl xx hl=>?_⟩
 .rcases hmv l bl cl hl with⟨_,rfl,rfl⟩|⟨_,hl⟩
  .exact⟨hbig,.inl (by rw[hbn];exact ok.size)⟩
  have:=ok.rb l bl cl hl;exact⟨aau this.1 r3.size,this.2⟩
 .rcases hmv l bl cl hl with⟨h1,h2,h3⟩|⟨h1,h3⟩<;>rcases hmv l' bl cl' hl' with⟨k1,k2,k3⟩|⟨k1,k3⟩
  .omega
  .have:=(ok.rb l' bl cl' k3).1;omega
  .have:=(ok.rb l bl cl h3).1;omega
  exact ok.inj l l' bl cl cl' h3 k3
 .rw[hsame k (by have:=ok.size;omega)];exact ok.block k hk hW
 .obtain⟨bl,cl⟩:=xx
  rcases hmv l bl cl hl with⟨rfl,_⟩|⟨_,hl⟩
  .rw[rJ hq2] at hv;cases hv
  exact ok.pin l _ hv hl
 .rcases hmv l bl cl hl with⟨_,rfl,_⟩|⟨_,hl⟩
  .right;omega
  exact .inl ⟨l,cl,hl⟩
 .simp only[Env.new]
  rw[if_neg (λe=>by rw[e,hq1] at hlr;cases hlr)]
  exact hlr
 .simp at hm;obtain⟨rfl,rfl⟩:=hm
  refine⟨bn,cap,cur,by simp[Env.new],hhn,hcur,by omega,hcapm,hsz,?_,λ_=>hnF,λh=>by cases h⟩
  rw[fF]
  refine oT λj xd hj=>?_
  rw[aaj,fa hhn]
  obtain⟨u,u1,u2⟩:=n3 _ _ hj
  refine⟨u,?_,cW (kH _) (kI _) _ _ u2⟩
  have:=u1
  rw[<-htk,aat] at this
  split at this
  .simpa using this
  cases this
 obtain⟨bl,cl⟩:=xx
 rcases hmv l bl cl hl with⟨rfl,_⟩|⟨_,hl⟩
 .exact .inr ⟨_,.head _⟩
 exact .inl hl
theorem JG {ys:Lad} {c:C} [ht:eB P t e sz by_]
 (hs:Src nob c ys gy) (hne0:ys≠[]) (hsz:∀e∈ys,e.length=sz) (hb:ys.length*by_<=140737488355328) (h63:ys.length<=9223372036854775807):
 AWN P ⟨some d,.call ⟨.builtin .append,#[x,y],#[t,t]⟩,ty,ps,af,gd⟩ [(x,.v (.c .nil)),(y,.v (.c c))] nob (.v (.c (.w q ys.length))) [(q,.row e sz ys gy true)]:=by
 intro cx E a w ok hne hnob hfr
 obtain⟨hq1,hq2⟩:=hfr q _ (.head _)
 exact xa hs hne0 hsz hb h63 ok (λl x h=>hnob l x (Aa h)) hq1 hq2 (hne x _ (.head _)) (hne y _ (.tail _ (.head _)))
end
section
variable {P:Program} {N:Nat} {d:Tmp} {ty:TypeId} {ps:String} {af:Array Edge} {gd:Option (Nat×Bool)} {x y:Operand} {sl:Lab} {ob:Laa} {nx:Nat} {α:Type} {enc:α->List D}
theorem apx {o:Nat} {ys zs:List α} {zd:Lad} {gg:Bool} {c:C} (ls:List Nat) [eB P t e sz by_] (H:da by_ (ys++zs).length=true) (hzd:zs.map enc=zd:=by exact rfl) (henc:∀a,(enc a).length=sz:=by exact λ_=>rfl)
 (hp:vl ob ls=some nob:=by exact rfl) (hd:nlt d N=true:=by exact rfl) (hx:opT sl x= .v (.c (.w o n)):=by exact rfl) (hy:opT sl y= .v (.c c):=by exact rfl) (hn:ys.length=n:=by first|rfl|simp) (hs:Src nob c zd gy:=by first|exact .d|exact .nil|exact .w rfl (by first|rfl|exact lm _|simp)|exact .wn rfl (by first|rfl|exact lm _|simp)) (ho:go nob o=some (.row e sz (ys.map enc) g true):=by exact rfl) (hg:(g&&gy)=gg:=by exact rfl) (hrv:rsv o=false:=by exact rfl) (hnx:nxt nx=some nx':=by exact rfl):
 NX P N ⟨some d,.call ⟨.builtin .append,#[x,y],#[t,t]⟩,ty,ps,af,gd⟩ ⟨sl,ob,nx⟩ ⟨(d,.v (.c (.w nx (ys++zs).length)))::sl,(nx,.row e sz ((ys++zs).map enc) gg true)::ob,nx'⟩
  ⟨⟨d,[(x,.v (.c (.w o n))),(y,.v (.c c))],nob,.v (.c (.w nx (ys++zs).length)),[(nx,.row e sz ((ys++zs).map enc) gg true)]⟩,[],some o⟩:=by
 subst hzd;subst hg
 simp only[da,decide_eq_true_eq,aav] at H
 have:=LC (P:=P) (d:=d) (ty:=ty) (ps:=ps) (af:=af) (gd:=gd) (x:=x) (y:=y) (t:=t) (e:=e) (sz:=sz) (by_:=by_) (q:=nx) (n:=n) hrv ho hs (by simpa using hn) (JA henc zs) (by subst hn;simp only[aay];exact H.1) (by subst hn;simp only[aay];omega)
 rw[<-abb,aay,<-hn,<-aav] at this
 exact⟨by subst hn;exact this,.inl ⟨rfl,dr hd⟩,⟨hx,hy,trivial⟩,vm hp,pR hnx,rfl⟩
theorem GI {o:Nat} {ys zs:List α} {zd:Lad} {c:C} (ls:List Nat) [eB P t e sz by_] (H:da by_ (ys++zs).length=true) (hzd:zs.map enc=zd:=by exact rfl) (henc:∀a,(enc a).length=sz:=by exact λ_=>rfl) (hfl:∀a,vd (enc a)=true:=by exact λ_=>rfl)
 (hp:vl ob ls=some nob:=by exact rfl) (hd:nlt d N=true:=by exact rfl) (hx:opT sl x= .v (.c (.w o n)):=by exact rfl) (hy:opT sl y= .v (.c c):=by exact rfl) (hn:ys.length=n:=by first|rfl|simp) (hs:Src nob c zd gy:=by first|exact .d|exact .nil|exact .w rfl (by first|rfl|exact lm _|simp)|exact .wn rfl (by first|rfl|exact lm _|simp)) (ho:go nob o=some (.row e sz (ys.map enc) g true):=by exact rfl) (hrv:rsv o=false:=by exact rfl) (hnx:nxt nx=some nx':=by exact rfl):
 NX P N ⟨some d,.call ⟨.builtin .append,#[x,y],#[t,t]⟩,ty,ps,af,gd⟩ ⟨sl,ob,nx⟩ ⟨(d,.v (.c (.w nx (ys++zs).length)))::sl,(nx,.row e sz ((ys++zs).map enc) true true)::ob,nx'⟩
  ⟨⟨d,[(x,.v (.c (.w o n))),(y,.v (.c c))],nob,.v (.c (.w nx (ys++zs).length)),[(nx,.row e sz ((ys++zs).map enc) true true)]⟩,[],some o⟩:=by
 obtain⟨h1,h2,h3,h4,h5,h6⟩:=apx (P:=P) (N:=N) (t:=t) (x:=x) (y:=y) (enc:=enc) (d:=d) (ty:=ty) (ps:=ps) (af:=af) (gd:=gd) (sl:=sl) (ob:=ob) (nx:=nx) ls H hzd henc hp hd hx hy hn hs ho rfl hrv hnx
 refine⟨?_,h2,h3,h4,pR hnx,rfl⟩
 intro cx E a w ok hne hnob hfr
 refine Oper.wp_mono ?_ (h1 cx E a w ok hne hnob (λl x hm=>by simp at hm;obtain⟨rfl,_⟩:=hm;exact hfr _ _ (.head _)))
 rintro a' w' ⟨v,E',k1,k2,k3,k4,k5,k6,k7⟩
 refine⟨v,E',k1,k2,k3,k4,λl x hm=>?_,k6,λl x hl=>(k7 l x hl).imp id (λ⟨x',hm⟩=>by simp at hm;obtain⟨rfl,_⟩:=hm;exact⟨_,.head _⟩)⟩
 simp at hm;obtain⟨rfl,rfl⟩:=hm
 obtain⟨b,c,arr,j1,j2,j3,j4,j5,j6,j7,j8,j9⟩:=k5 _ _ (.head _)
 refine⟨b,c,arr,j1,j2,j3,by simpa using j4,j5,by simpa using j6,?_,j8,λh=>by cases h⟩
 have:rdLL w' (E'.H true) ((ys++zs).map enc) b 0:=yR (λe he=>by obtain⟨a,_,rfl⟩:=aa7.1 he;exact hfl a) j7
 simpa using this
end
theorem cz {o:Nat} {ob:Laa} {cs':List C} {e:Lac} (ho:go ob o=some (.var ty cs):=by exact rfl) (hv:QU ob cs=some (cs',e):=by exact rfl) (he:Eqs e:=by repeat (first|exact trivial|refine⟨by first|rfl|exact lm _|simp,?_⟩)):dS N ⟨sl,ob,nx⟩ ⟨sl,(o,.var ty cs')::ob,nx⟩:=by
 intro cx E a w hR
 refine⟨E,hR.ok,hR.dom,λp x h=>?_,hR.sl,hR.dfr,hR.size,hR.td⟩
 by_cases hp:o=p
 .subst hp
  rw[cU] at h;cases h
  obtain⟨b,c,arr,h1,h2,h3,h4⟩:=hR.obs o _ ho
  exact⟨b,c,arr,h1,h2,Jf hR.obs hv he h3,h4⟩
 rw[b7 _ _ hp] at h;exact hR.obs p x h
theorem uI {ob:Laa} (h:aaz nx nx'=true):dS N ⟨sl,ob,nx⟩ ⟨sl,ob,nx'⟩:=by
 intro cx E a w hR
 have:=aaO h
 exact⟨E,hR.ok,λo x ho=>aau (hR.dom o x ho) this,hR.obs,hR.sl,hR.dfr,hR.size,λl b hb=>aau (hR.td l b hb) this⟩
theorem dJ.setN {cx:Cx} (ok:dJ cx E w) (n:Nat->Prop):dJ cx {E with n:=n} w:=
 ⟨ok.fb,ok.gf,ok.gn,ok.rb,ok.inj,ok.os,ok.tape,ok.output,ok.size,ok.block,ok.pin,ok.ff,ok.gc,⟨ok.sf.tb,ok.sf.tt,ok.sf.zc,ok.sf.zs,ok.sf.ze⟩⟩
def qA (f:C->Option C):List C->Option (List C)
 |[]=>some []
 |c::cs=>match f c,qA f cs with
  |some x,some xs=>some (x::xs)
  |_,_=>none
def JC (f:C->Option C):V->Option V
 | .c c=>match f c with
  |some x=>some (.c x)
  |none=>none
 | .agg cs=>match qA f cs with
  |some x=>some (.agg x)
  |none=>none
def CZ (f:C->Option C):List V->Option (List V)
 |[]=>some []
 |c::cs=>match JC f c,CZ f cs with
  |some x,some xs=>some (x::xs)
  |_,_=>none
def Bo (f:C->Option C):T->Option T
 | .v v=>match JC f v with
  |some x=>some (.v x)
  |none=>none
 | .tup vs=>match CZ f vs with
  |some x=>some (.tup x)
  |none=>none
 | .any=>some .any
def Cn (f:C->Option C):Lab->Option Lab
 |[]=>some []
 |(k,t)::r=>match Bo f t,Cn f r with
  |some x,some xs=>some ((k,x)::xs)
  |_,_=>none
def Ai (f:C->Option C) (g:Nat->Ob->Option Ob):Laa->Option Laa
 |[]=>some []
 |(k,.var t cs)::r=>match qA f cs,Ai f g r with
  |some x,some xs=>some ((k,.var t x)::xs)
  |_,_=>none
 |(k,.row t sz els gg m)::r=>match g k (.row t sz els gg m),Ai f g r with
  |some x,some xs=>some ((k,x)::xs)
  |_,_=>none
 |(k,.rown t sz els gg)::r=>match g k (.rown t sz els gg),Ai f g r with
  |some x,some xs=>some ((k,x)::xs)
  |_,_=>none
 |(k,.abs j y)::r=>match g k (.abs j y),Ai f g r with
  |some x,some xs=>some ((k,x)::xs)
  |_,_=>none
section
variable {f:C->Option C} {E E':Env} {w w':World} (hf:∀c c' u,f c=some c'->cvC E w c u->cvC E' w' c' u)
include hf
theorem vk:∀{cs cs':List C} {us:Lae},qA f cs=some cs'->CV E w cs us->CV E' w' cs' us
 |[],cs',us,h,hc=>by
  simp[qA] at h;subst h
  cases us with
  |nil=>trivial
  |cons _ _=>exact hc.elim
 |c::cs,cs',us,h,hc=>by
  cases us with
  |nil=>exact hc.elim
  |cons u us=>
   simp only[qA] at h
   split at h
   .rename_i h1 h2;simp at h;subst h;exact⟨hf _ _ _ h1 hc.1,vk h2 hc.2⟩
   cases h
theorem Py {v v':V} (h:JC f v=some v') (hv:cvV E w v u):cvV E' w' v' u:=by
 cases v with
 |c c=>
  simp only[JC] at h
  split at h
  .rename_i h1;simp at h;subst h;exact hf _ _ _ h1 hv
  cases h
 |agg cs=>
  simp only[JC] at h
  split at h
  .rename_i h1;simp at h;subst h;obtain⟨arr,hu,hc⟩:=hv;exact⟨arr,hu,vk hf h1 hc⟩
  cases h
theorem LN:∀{cs cs':List V} {us:Lae},CZ f cs=some cs'->VV E w cs us->VV E' w' cs' us
 |[],cs',us,h,hc=>by
  simp[CZ] at h;subst h
  cases us with
  |nil=>trivial
  |cons _ _=>exact hc.elim
 |c::cs,cs',us,h,hc=>by
  cases us with
  |nil=>exact hc.elim
  |cons u us=>
   simp only[CZ] at h
   split at h
   .rename_i h1 h2;simp at h;subst h;exact⟨Py hf h1 hc.1,LN h2 hc.2⟩
   cases h
theorem Bp {v v':T} (h:Bo f v=some v') (hv:cvT E w v u):cvT E' w' v' u:=by
 cases v with
 |v v=>
  simp only[Bo] at h
  split at h
  .rename_i h1;simp at h;subst h;exact Py hf h1 hv
  cases h
 |tup vs=>
  simp only[Bo] at h
  split at h
  .rename_i h1;simp at h;subst h;obtain⟨arr,hu,hc⟩:=hv;exact⟨arr,hu,LN hf h1 hc⟩
  cases h
 |any=>simp[Bo] at h;subst h;trivial
theorem Bn {k:Nat} {u:Value}:∀{sl sl':Lab},Cn f sl=some sl'->cvT E w (gt sl k) u->cvT E' w' (gt sl' k) u
 |[],sl',h,_=>by simp[Cn] at h;subst h;trivial
 |(j,t)::r,sl',h,hc=>by
  simp only[Cn] at h
  split at h
  .rename_i h1 h2
   simp at h;subst h
   by_cases hj:j=k
   .subst hj;rw[d4] at hc ⊢;exact Bp hf h1 hc
   rw[di _ _ hj] at hc ⊢;exact Bn h2 hc
  cases h
end
theorem wr {f:C->Option C} {g:Nat->Ob->Option Ob} {l:Nat} {y:Ob}:∀{ob ob':Laa},Ai f g ob=some ob'->go ob' l=some y->
 (∃t cs cs',go ob l=some (.var t cs)/\qA f cs=some cs'/\y= .var t cs')\/(∃x,go ob l=some x/\(∀t cs,x≠.var t cs)/\g l x=some y)
 |[],ob',h,hy=>by simp[Ai] at h;subst h;cases hy
 |(k,x)::r,ob',h,hy=>by
  cases x with
  |var t cs=>
   simp only[Ai] at h
   split at h
   .rename_i h1 h2
    simp at h;subst h
    by_cases hk:k=l
    .subst hk;rw[cU] at hy ⊢;cases hy;exact .inl ⟨t,cs,_,rfl,h1,rfl⟩
    rw[b7 _ _ hk] at hy ⊢;exact wr h2 hy
   cases h
  |row t sz els gg m=>
   simp only[Ai] at h
   split at h
   .rename_i h1 h2
    simp at h;subst h
    by_cases hk:k=l
    .subst hk;rw[cU] at hy ⊢;cases hy;exact .inr ⟨_,rfl,by simp,h1⟩
    rw[b7 _ _ hk] at hy ⊢;exact wr h2 hy
   cases h
  |rown t sz els gg=>
   simp only[Ai] at h
   split at h
   .rename_i h1 h2
    simp at h;subst h
    by_cases hk:k=l
    .subst hk;rw[cU] at hy ⊢;cases hy;exact .inr ⟨_,rfl,by simp,h1⟩
    rw[b7 _ _ hk] at hy ⊢;exact wr h2 hy
   cases h
  |abs j z=>
   simp only[Ai] at h
   split at h
   .rename_i h1 h2
    simp at h;subst h
    by_cases hk:k=l
    .subst hk;rw[cU] at hy ⊢;cases hy;exact .inr ⟨_,rfl,by simp,h1⟩
    rw[b7 _ _ hk] at hy ⊢;exact wr h2 hy
   cases h
def Sl (o:Nat):C->Option C
 | .w l n=>match d0 l o with
  |true=>some (.wn l n)
  |false=>some (.w l n)
 | .wn l n=>match d0 l o with
  |true=>some .any
  |false=>some (.wn l n)
 |c=>some c
def V8 (o:Nat) (k:Nat):Ob->Option Ob
 | .row t sz els g true=>match d0 k o with
  |true=>some (.rown t sz els g)
  |false=>some (.row t sz els g true)
 |x=>some x
theorem ec {rt:Nat} {ob:Laa} (o:Nat) (ho:go ob o=some (.row rt sz els g true):=by exact rfl) (hs:Cn (Sl o) sl=some sl':=by exact rfl) (hb:Ai (Sl o) (V8 o) ob=some ob':=by exact rfl):dS N ⟨sl,ob,nx⟩ ⟨sl',ob',nx⟩:=by
 intro cx E a w hR
 have hf:∀c c' u,Sl o c=some c'->cvC E w c u->cvC {E with n:=λl=>l≠o/\E.n l} w c' u:=by
  intro c c' u h hc
  cases c with
  |w l n=>
   simp only[Sl] at h
   split at h
   .rename_i hb
    have:=aad hb
    subst this
    cases h
    exact .inr ⟨λh=>h.1 rfl,hc⟩
   cases h;exact hc
  |wn l n=>
   simp only[Sl] at h
   split at h
   .cases h;trivial
   rename_i hb
   have:=jD hb
   cases h
   rcases hc with⟨h1,h2⟩|⟨h1,h2⟩
   .exact .inl ⟨⟨this,h1⟩,h2⟩
   exact .inr ⟨λh=>h1 h.2,h2⟩
  |_=>simp only[Sl] at h;cases h;exact hc
 refine⟨{E with n:=λl=>l≠o/\E.n l},hR.ok.setN _,hR.dom,λl y hl=>?_,λk=>Bn hf hs (hR.sl k),hR.dfr,hR.size,hR.td⟩
 rcases wr hb hl with⟨t,cs,cs',h1,h2,rfl⟩|⟨x,h1,h2,h3⟩
 .obtain⟨b,c,arr,k1,k2,k3,k4⟩:=hR.obs l _ h1
  exact⟨b,c,arr,k1,k2,vk hf h2 k3,k4⟩
 have hx:=hR.obs l x h1
 cases x with
 |var t cs=>exact absurd rfl (h2 t cs)
 |row t sz els g m=>
  cases m with
  |true=>
   simp only[V8] at h3
   split at h3
   .rename_i hb
    have:=aad hb
    subst this
    cases h3
    obtain⟨b,c,arr,k1,k2,k3,k4,k5,k6,k7,k8,_⟩:=hx
    exact .inr ⟨λh=>h.1 rfl,b,c,arr,k1,k2,k3,k4,k5,k6,k7,k8 rfl⟩
   cases h3;exact hx
  |false=>simp only[V8] at h3;cases h3;exact hx
 |rown t sz els g=>
  simp only[V8] at h3
  cases h3
  have hlo:l≠o:=λe=>by subst e;rw[ho] at h1;cases h1
  rcases hx with⟨k1,k2⟩|⟨k1,k2⟩
  .exact .inl ⟨⟨hlo,k1⟩,k2⟩
  exact .inr ⟨λh=>k1 h.2,k2⟩
 |abs j y=>
  simp only[V8] at h3
  cases h3
  have hlo:l≠o:=λe=>by subst e;rw[ho] at h1;cases h1
  rcases hx with⟨k1,k2⟩|⟨k1,k2⟩
  .exact .inl ⟨⟨hlo,k1⟩,k2⟩
  exact .inr ⟨λh=>k1 h.2,k2⟩
def Wc (o:Nat):C->Option C
 | .wn l n=>match d0 l o with
  |true=>some (.w l n)
  |false=>some (.wn l n)
 |c=>some c
def Yz (o:Nat) (k:Nat):Ob->Option Ob
 | .rown t sz els g=>match d0 k o with
  |true=>some (.row t sz els g true)
  |false=>some (.rown t sz els g)
 |x=>some x
theorem mc {ty:Nat} {ob:Laa} (o:Nat) (ho:go ob o=some (.rown ty sz els g):=by exact rfl) (hne:els≠[]) (hs:Cn (Wc o) sl=some sl':=by exact rfl) (hb:Ai (Wc o) (Yz o) ob=some ob':=by exact rfl):dS N ⟨sl,ob,nx⟩ ⟨sl',ob',nx⟩:=by
 intro cx E a w hR
 have hn:¬E.n o:=by
  rcases hR.obs o _ ho with⟨_,h⟩|⟨h,_⟩
  .exact absurd h hne
  exact h
 have hf:∀c c' u,Wc o c=some c'->cvC E w c u->cvC E w c' u:=by
  intro c c' u h hc
  cases c with
  |wn l n=>
   simp only[Wc] at h
   split at h
   .rename_i hb
    have:=aad hb
    subst this
    cases h
    rcases hc with⟨h1,_⟩|⟨_,h2⟩
    .exact absurd h1 hn
    exact h2
   cases h;exact hc
  |_=>simp only[Wc] at h;cases h;exact hc
 refine⟨E,hR.ok,hR.dom,λl y hl=>?_,λk=>Bn hf hs (hR.sl k),hR.dfr,hR.size,hR.td⟩
 rcases wr hb hl with⟨t,cs,cs',h1,h2,rfl⟩|⟨x,h1,h2,h3⟩
 .obtain⟨b,c,arr,k1,k2,k3,k4⟩:=hR.obs l _ h1
  exact⟨b,c,arr,k1,k2,vk hf h2 k3,k4⟩
 have hx:=hR.obs l x h1
 cases x with
 |var t cs=>exact absurd rfl (h2 t cs)
 |row t sz els g m=>simp only[Yz] at h3;cases h3;exact hx
 |rown t sz els g=>
  simp only[Yz] at h3
  split at h3
  .rename_i hb
   have:=aad hb
   subst this
   cases h3
   rcases hx with⟨k1,k2⟩|⟨_,b,c,arr,k1,k2,k3,k4,k5,k6,k7,k8⟩
   .exact absurd k1 hn
   exact⟨b,c,arr,k1,k2,k3,k4,k5,k6,k7,λ_=>k8,λh=>by cases h⟩
  cases h3;exact hx
 |abs j y=>simp only[Yz] at h3;cases h3;exact hx
def Hn (n:Nat):Lab->Bool
 |[]=>true
 |(_,t)::r=>t.lt n&&Hn n r
def C4 (n:Nat):Laa->Bool
 |[]=>true
 |(l,x)::r=>(nlt l n&&x.lt n)&&C4 n r
theorem Qk {n:Nat}:∀{sl:Lab} (k:Nat),Hn n sl=true->(gt sl k).lt n=true
 |[],k,_=>rfl
 |(j,t)::r,k,h=>by
  simp only[Hn,hV] at h
  by_cases hj:j=k
  .subst hj;rw[d4];exact h.1
  rw[di _ _ hj];exact Qk k h.2
theorem yd {n:Nat}:∀{ob:Laa} {l:Nat} {x:Ob},C4 n ob=true->go ob l=some x->l<n/\x.lt n=true
 |(k,y)::r,l,x,h,hl=>by
  simp only[C4,hV] at h
  by_cases hk:k=l
  .subst hk;rw[cU] at hl;cases hl;exact⟨dr h.1.1,h.1.2⟩
  rw[b7 _ _ hk] at hl;exact yd h.2 hl
section
variable {E:Env} {w:World} {n:Nat} {p:Nat->Prop} (hp:∀l,l<n->(p l↔E.n l))
include hp
theorem K2 {c:C} (hl:c.lt n=true) (h:cvC E w c u):cvC {E with n:=p} w c u:=by
 cases c with
 |wn o m=>
  have:=hp o (dr hl)
  rcases h with⟨h1,h2⟩|⟨h1,h2⟩
  .exact .inl ⟨this.2 h1,h2⟩
  exact .inr ⟨λk=>h1 (this.1 k),h2⟩
 |_=>exact h
theorem IE:∀{cs:List C} {us:Lae},cs.all (C.lt n)=true->CV E w cs us->CV {E with n:=p} w cs us
 |[],[],_,_=>trivial
 |c::cs,u::us,hl,h=>by
  simp only[aaK,hV] at hl
  exact⟨K2 hp hl.1 h.1,IE hl.2 h.2⟩
 |[],_::_,_,h=>h.elim
 |_::_,[],_,h=>h.elim
theorem K3 {v:V} (hl:v.lt n=true) (h:cvV E w v u):cvV {E with n:=p} w v u:=by
 cases v with
 |c c=>exact K2 hp hl h
 |agg cs=>obtain⟨arr,hu,h⟩:=h;exact⟨arr,hu,IE hp hl h⟩
theorem OL:∀{cs:List V} {us:Lae},cs.all (V.lt n)=true->VV E w cs us->VV {E with n:=p} w cs us
 |[],[],_,_=>trivial
 |c::cs,u::us,hl,h=>by
  simp only[aaK,hV] at hl
  exact⟨K3 hp hl.1 h.1,OL hl.2 h.2⟩
 |[],_::_,_,h=>h.elim
 |_::_,[],_,h=>h.elim
theorem TD {t:T} (hl:t.lt n=true) (h:cvT E w t u):cvT {E with n:=p} w t u:=by
 cases t with
 |v v=>exact K3 hp hl h
 |tup ts=>obtain⟨arr,hu,h⟩:=h;exact⟨arr,hu,OL hp hl h⟩
 |any=>trivial
theorem NW {o:Nat} (ho:o<n) (hl:x.lt n=true) (h:dm E w o x):dm {E with n:=p} w o x:=by
 cases x with
 |var t cs=>obtain⟨b,c,arr,k1,k2,k3,k4⟩:=h;exact⟨b,c,arr,k1,k2,IE hp hl k3,k4⟩
 |row t sz els g m=>exact h
 |rown t sz els g=>
  rcases h with⟨h1,h2⟩|⟨h1,h2⟩
  .exact .inl ⟨(hp o ho).2 h1,h2⟩
  exact .inr ⟨λk=>h1 ((hp o ho).1 k),h2⟩
 |abs j y=>
  rcases h with⟨h1,h2⟩|⟨h1,h2⟩
  .exact .inl ⟨(hp o ho).2 h1,h2⟩
  exact .inr ⟨λk=>h1 ((hp o ho).1 k),h2⟩
end
theorem rel_nn {ty sz:Nat} {g:Bool} {ob:Laa} (hs:Hn nx sl=true) (hb:C4 nx ob=true) (hq:nxt nx=some nx') {cx:Cx} (hR:Rel N cx E ⟨sl,ob,nx⟩ a w):
 Rel N cx {E with n:=λl=>l=nx\/E.n l} ⟨sl,(nx,.rown ty sz [] g)::ob,nx'⟩ a w:=by
 have hp:∀l,l<nx->((l=nx\/E.n l)↔E.n l):=λl h=>⟨λk=>k.resolve_left oaa,.inr⟩
 have hn:nx'=nx+1:=by
  unfold nxt at hq
  cases hr:rsv nx with
  |true=>rw[hr] at hq;cases hq
  |false=>rw[hr] at hq;exact(Option.some.inj hq).symm
 refine⟨hR.ok.setN _,λo x h=>by have:=hR.dom o x h;simp only at this ⊢;omega,λl x hl=>?_,λk=>TD hp (Qk k hs) (hR.sl k),hR.dfr,hR.size,λl b h=>by have:=hR.td l b h;simp only at this ⊢;omega⟩
 by_cases e:nx=l
 .subst e;rw[cU] at hl;cases hl;exact .inl ⟨.inl rfl,rfl⟩
 rw[b7 _ _ e] at hl
 obtain⟨h1,h2⟩:=yd hb hl
 exact NW hp h1 h2 (hR.obs l x hl)
def R9:Nat->C->List C->Option (List C)
 |0,x,.nil::cs=>some (x::cs)
 |j+1,x,c::cs=>match R9 j x cs with
  |some r=>some (c::r)
  |none=>none
 |_,_,_=>none
theorem Ke {E E':Env} {w:World} {x:C} (hx:cvC E' w x (.slice none 0 0)):∀{j:Nat} {cs cs':List C} {us:Lae},R9 j x cs=some cs'->CV E w cs us->CV E' w cs us->CV E' w cs' us
 |0,.nil::cs,cs',us,h,h1,h2=>by
  simp[R9] at h;subst h
  cases us with
  |nil=>exact h1.elim
  |cons u us=>have:u= .slice none 0 0:=h1.1;subst this;exact⟨hx,h2.2⟩
 |j+1,c::cs,cs',us,h,h1,h2=>by
  simp only[R9] at h
  split at h
  .rename_i h3
   simp at h;subst h
   cases us with
   |nil=>exact h1.elim
   |cons u us=>exact⟨h2.1,Ke hx h3 h1.2 h2.2⟩
  cases h
theorem dH {o:Nat} {ob:Laa} {vt:TypeId} {cs':List C} (ty sz:Nat) (g:Bool) (ho:go ob o=some (.var vt cs):=by exact rfl) (hj:R9 j (.wn nx 0) cs=some cs':=by exact rfl) (hs:Hn nx sl=true:=by exact rfl) (hb:C4 nx ob=true:=by exact rfl) (hq:nxt nx=some nx':=by exact rfl):
 dS N ⟨sl,ob,nx⟩ ⟨sl,(o,.var vt cs')::(nx,.rown ty sz [] g)::ob,nx'⟩:=by
 intro cx E a w hR
 have h:=rel_nn (ty:=ty) (sz:=sz) (g:=g) hs hb hq hR
 refine⟨_,h.ok,h.dom,λl x hl=>?_,h.sl,h.dfr,h.size,h.td⟩
 by_cases e:o=l
 .subst e
  rw[cU] at hl;cases hl
  have hne:nx≠o:=λe=>by have:=(yd hb ho).1;omega
  have h2:=h.obs o (.var vt cs) (by rw[b7 _ _ hne];exact ho)
  obtain⟨b,c,arr,k1,k2,k3,k4⟩:=hR.obs o _ ho
  obtain⟨b',c',arr',m1,m2,m3,m4⟩:=h2
  have k1':E.r o=some (b',c'):=m1
  rw[k1] at k1';cases k1'
  rw[k2] at m2;cases m2
  exact⟨b,c,arr,k1,k2,Ke (x:=.wn nx 0) (Or.inl ⟨Or.inl rfl,rfl,rfl⟩) hj k3 m3,k4⟩
 rw[b7 _ _ e] at hl;exact h.obs l x hl
section
variable {P:Program} {N:Nat} {d:Tmp} {ty:TypeId} {ps:String} {af:Array Edge} {gd:Option (Nat×Bool)} {x y z:Operand} {sl:Lab} {ob:Laa} {nx:Nat}
theorem UQ {d:Option Tmp} {o:Nat} [ht:eB P t e sz by_]:AWN P ⟨d,.call ⟨.builtin .len,#[x],#[t]⟩,ty,ps,af,gd⟩ [(x,.v (.c (.wn o n)))] [] (tI n) []:=
 cM λE ac w hn _=>by
  rcases hn x _ (.head _) with⟨_,h0,hu⟩|⟨_,b,c,hr,hu⟩
  .subst h0;exact⟨_,by simp[execOp,resolve,invoke,builtin,hu,Builtin.len_,underlying,ht.u,goInt];rfl,by simp[cvT,cvV,cvC,rdD]⟩
  exact⟨_,by simp[execOp,resolve,invoke,builtin,hu,Builtin.len_,underlying,ht.u,goInt];rfl,by simp[cvT,cvV,cvC,rdD]⟩
theorem lwn {o:Nat} [eB P t e sz by_] (hx:opT sl x= .v (.c (.wn o n))) (hN:nlt d N=true):NS0 P N ⟨some d,.call ⟨.builtin .len,#[x],#[t]⟩,ty,ps,af,gd⟩ sl ob nx d (tI n) ⟨d,[(x,.v (.c (.wn o n)))],[],tI n,[]⟩:=dT (st:=⟨sl,ob,nx⟩) UQ rfl hN ⟨hx,trivial⟩ trivial rfl
theorem LW {o:Nat} {ys:Lad} {c:C} [ht:eB P t e sz by_] (hrv:rsp o=false) (hnv:rsv st.nx=false) (hd:d<N)
 (hx:opT st.sl x= .v (.c (.wn o n))) (hy:opT st.sl y= .v (.c c)) (ho:go st.ob o=some (.rown e sz els g)) (hs:Src st.ob c ys gy) (hk:oO o st.sl=some sl') (hkb:mC o st.ob=some ob')
 (hn:els.length=n) (hne:ys≠[]) (hol:o<st.nx) (hsz:∀e∈ys,e.length=sz) (hb:(n+ys.length)*by_<=140737488355328) (h63:n+ys.length<=9223372036854775807):
 AWO P N ⟨some d,.call ⟨.builtin .append,#[x,y],#[t,t]⟩,ty,ps,af,gd⟩ st ⟨(d,.v (.c (.w o (n+ys.length))))::sl',(o,.row e sz (els++ys) (g&&gy) true)::ob',st.nx⟩:=by
 intro cx E a w hR
 have h1:=hR.op x;rw[hx] at h1
 have h2:=hR.op y;rw[hy] at h2
 have h3:=hR.obs o _ ho
 rcases h1 with⟨hE,h0,hu⟩|⟨hE,b,cc,hr,hu⟩
 .subst h0
  have hels:els=[]:=aaL hn
  subst hels
  have hq1:E.r st.nx=none:=by
   cases hq:E.r st.nx with
   |none=>rfl
   |some p=>have:=hR.dom _ _ hq;omega
  have hoq:o≠st.nx:=by omega
  refine Oper.wp_mono ?_ (xa (P:=P) (d:=d) (ty:=ty) (ps:=ps) (af:=af) (gd:=gd) (t:=t) (q:=st.nx) hs hne hsz (by simpa using hb) oaa hR.ok hR.obs hq1 hnv hu h2)
  rintro a' w' ⟨v,E1,rfl,ok1,ext,hv,hob1,hdom⟩
  obtain⟨bn,cap,hrq,hvu⟩:=hv
  obtain⟨bn',cap',arr,hrq',hhn,j3,j4,j5,j6,j7,j8,_⟩:=hob1 _ _ (.head _)
  rw[hrq] at hrq';cases hrq'
  have hrE:∀l p,E1.r l=some p->l=st.nx\/E.r l=some p:=λl p h=>by
   rcases hdom l p h with h|⟨ob,h⟩
   .exact .inr h
   simp at h;exact .inl h.1
  let E2:Env:={E1 with r:=λl=>if l=o then some (bn,cap) else if l=st.nx then none else E1.r l,n:=λl=>l≠o/\E.n l}
  have hr2:∀l b c,E2.r l=some (b,c)->(l=o/\b=bn/\c=cap)\/(l≠o/\l≠st.nx/\E1.r l=some (b,c)):=by
   intro l b c h
   have h:(if l=o then some (bn,cap) else if l=st.nx then none else E1.r l)=some (b,c):=h
   split at h
   .cases h;exact .inl ⟨by assumption,rfl,rfl⟩
   split at h
   .cases h
   exact .inr ⟨by assumption,by assumption,h⟩
  have hback:∀l b c,E2.r l=some (b,c)->∃l',E1.r l'=some (b,c):=by
   intro l b c h
   rcases hr2 l b c h with⟨_,rfl,rfl⟩|⟨_,_,h⟩
   .exact⟨st.nx,hrq⟩
   exact⟨l,h⟩
  have ok2:dJ cx E2 w':=by
   refine⟨ok1.fb,ok1.gf,ok1.gn,λl b c h=>?_,λl l' b c c' h h'=>?_,ok1.os,ok1.tape,ok1.output,ok1.size,ok1.block,λl p hv h=>?_,ok1.ff,ok1.gc,⟨λl b h=>?_,ok1.sf.tt,λb h=>?_,ok1.sf.zs,ok1.sf.ze⟩⟩
   .rcases hr2 l b c h with⟨_,rfl,rfl⟩|⟨_,_,h⟩
    .obtain⟨k1,k2⟩:=ok1.rb _ _ _ hrq
     exact⟨k1,.inl (k2.resolve_right (λk=>by rw[hnv] at k;cases k.2))⟩
    exact ok1.rb l b c h
   .rcases hr2 l b c h with⟨rfl,rfl,rfl⟩|⟨k1,k2,k3⟩<;>rcases hr2 l' _ c' h' with⟨rfl,e1,e2⟩|⟨m1,m2,m3⟩
    .rfl
    .exact absurd (ok1.inj _ _ _ _ _ m3 hrq) m2
    .subst e1;exact absurd (ok1.inj _ _ _ _ _ k3 hrq) k2
    exact ok1.inj _ _ _ _ _ k3 m3
   .obtain⟨b,c⟩:=p
    rcases hr2 l b c h with⟨rfl,_⟩|⟨_,_,h⟩
    .rw[hrv] at hv;cases hv
    exact ok1.pin l _ hv h
   .obtain⟨k1,k2,k3,k4⟩:=ok1.sf.tb l b h
    exact⟨k1,k2,λl' c hl=>(hback l' b c hl).elim λl'' h''=>k3 l'' c h'',k4⟩
   obtain⟨k1,k2,k3,k4⟩:=ok1.sf.zc b h
   exact⟨k1,k2,λl' c hl=>(hback l' b c hl).elim λl'' h''=>k3 l'' c h'',k4⟩
  have kp:=lf.of_ext hR.ok ext
  have kb:og o E w E2 w':=⟨λl p hl h=>by
   show(if l=o then some (bn,cap) else if l=st.nx then none else E1.r l)=some p
   rw[if_neg hl,if_neg (λe=>by subst e;rw[hq1] at h;cases h)]
   exact kp.r _ _ h,kp.H,kp.heap,kp.T,kp.Z,λl hl=>⟨λh=>h.2,λh=>⟨hl,h⟩⟩⟩
  have hFb:∀b,b<w.heap.size->¬E.F b->¬E2.F b:=λb hb hn h=>(ext.F' b h).elim hn oaa
  refine⟨E2,ok2,λl p h=>?_,λl ob hl=>?_,λk=>?_,hR.dfr,by simpa [Act.put] using hR.size,λl b h=>hR.td l b (by rw[<-ext.T];exact h)⟩
  .obtain⟨b,c⟩:=p
   rcases hr2 l b c h with⟨rfl,_⟩|⟨_,k2,h⟩
   .exact hol
   rcases hrE _ _ h with h|h
   .exact absurd h k2
   exact hR.dom _ _ h
  .by_cases hlo:o=l
   .subst hlo
    rw[cU] at hl;cases hl
    refine⟨bn,cap,arr,by show(if o=o then _ else _)=_;rw[if_pos rfl],hhn,j3,by simpa using j4,j5,by simpa using j6,?_,λ_=>j8 rfl,λh=>by cases h⟩
    simp only[aa8]
    exact cX (λ_ _=>rfl) (λb hb=>by cases g<;>cases gy<;>first|exact hb|exact ok1.gf b hb) rfl _ _ j7
   rw[b7 _ _ hlo] at hl
   rcases vj hkb hl with⟨t',cs,cs',k1,k2,rfl⟩|⟨t',sz',els',g',m',k1,rfl⟩|⟨t',sz',els',g',k1,rfl⟩|⟨j',y',k1,rfl⟩
   .obtain⟨bl,cl,arrl,l1,l2,l3,l4⟩:=hR.obs l _ k1
    have hbl:=(hR.ok.rb _ _ _ l1).1
    exact⟨bl,cl,arrl,kb.r _ _ (Ne.symm hlo) l1,(ext.heap bl hbl).trans l2,yW kb k2 l3,hFb bl hbl l4⟩
   .obtain⟨bl,cl,arrl,l1,l2,l3,l4,l5,l6,l7,l8,l9⟩:=hR.obs l _ k1
    have hbl:=(hR.ok.rb _ _ _ l1).1
    have hb2:=ext.heap bl hbl
    exact⟨bl,cl,arrl,kb.r _ _ (Ne.symm hlo) l1,hb2.trans l2,l3,l4,l5,l6,cX (kb.heap _) (kb.H _) hb2 _ _ l7,λhm=>hFb bl hbl (l8 hm),λhm=>⟨kb.H false _ (l9 hm).1,λhg=>kb.H true _ ((l9 hm).2 hg)⟩⟩
   .rcases hR.obs l _ k1 with⟨m1,m2⟩|⟨l0,bl,cl,arrl,l1,l2,l3,l4,l5,l6,l7,l8⟩
    .exact .inl ⟨⟨Ne.symm hlo,m1⟩,m2⟩
    have hbl:=(hR.ok.rb _ _ _ l1).1
    have hb2:=ext.heap bl hbl
    exact .inr ⟨λh=>l0 h.2,bl,cl,arrl,kb.r _ _ (Ne.symm hlo) l1,hb2.trans l2,l3,l4,l5,l6,cX (kb.heap _) (kb.H _) hb2 _ _ l7,hFb bl hbl l8⟩
   rcases hR.obs l _ k1 with⟨m1,m2⟩|⟨l0,bl,cl,l1,l2,l3⟩
   .exact .inl ⟨⟨Ne.symm hlo,m1⟩,m2⟩
   have hbl:=(hR.ok.rb _ _ _ l1).1
   have hb2:=ext.heap bl hbl
   exact .inr ⟨λh=>l0 h.2,bl,cl,kb.r _ _ (Ne.symm hlo) l1,y'.st _ _ _ _ _ _ l2 (λk hk=>(kb.T _ k hk).1) hb2 (λk hk=>(kb.T _ k hk).2),hFb bl hbl l3⟩
  rw[iJ (by rw[hR.size];exact hd)]
  by_cases hdk:d=k
  .subst hdk;rw[d4,if_pos rfl];exact⟨bn,cap,by show(if o=o then _ else _)=_;rw[if_pos rfl],by simpa using hvu⟩
  rw[di _ _ hdk,if_neg hdk]
  rcases xX hk k with h|⟨h,h'⟩
  .rw[h];trivial
  rw[h];exact Ja kb h' (hR.sl k)
 rcases h3 with⟨hE',_⟩|⟨_,b',c',arr,hr',hh,ha,hlc,hmx,hes,hrd,hF⟩
 .exact absurd hE' hE
 rw[hr] at hr';cases hr'
 exact CM hR hrv hd hr hu hh ha hlc hmx hes hrd hF hy hs hk hkb hn hsz hb h63
variable {α:Type} {enc:α->List D}
theorem AJ {o:Nat} {ys zs:List α} {zd:Lad} {gg:Bool} {c:C} [eB P t e sz by_] (H:da by_ (ys++zs).length=true) (hne:zs≠[]) (hzd:zs.map enc=zd) (henc:∀a,(enc a).length=sz) (hn:ys.length=n) (hs:Src ob c zd gy) (hd:nlt d N=true)
 (hx:opT sl x= .v (.c (.wn o n))) (hy:opT sl y= .v (.c c)) (ho:go ob o=some (.rown e sz (ys.map enc) g)) (hk:oO o sl=some sl') (hkb:mC o ob=some ob') (hg:(g&&gy)=gg) (hrv:rsp o=false) (hnv:rsv nx=false) (hol:nlt o nx=true):
 AWO P N ⟨some d,.call ⟨.builtin .append,#[x,y],#[t,t]⟩,ty,ps,af,gd⟩ ⟨sl,ob,nx⟩ ⟨(d,.v (.c (.w o (ys++zs).length)))::sl',(o,.row e sz ((ys++zs).map enc) gg true)::ob',nx⟩:=by
 subst hzd;subst hg
 simp only[da,decide_eq_true_eq,aav] at H
 have:=LW (st:=⟨sl,ob,nx⟩) (P:=P) (N:=N) (d:=d) (ty:=ty) (ps:=ps) (af:=af) (gd:=gd) (t:=t) (e:=e) (sz:=sz) (by_:=by_) hrv hnv (dr hd) hx hy ho hs hk hkb (by simpa using hn) (by simpa using hne) (dr hol) (JA henc zs) (by subst hn;simp only[aay];exact H.1) (by subst hn;simp only[aay];omega)
 rw[<-abb,aay,<-hn,<-aav] at this
 exact this
end
def FB (p q:Nat):C->Option C
 | .w l n=>match d0 l p,d0 l q with
  |true,_=>some .any
  |false,true=>some (.w p n)
  |false,false=>some (.w l n)
 | .wn l n=>match d0 l p,d0 l q with
  |true,_=>some .any
  |false,true=>some (.wn p n)
  |false,false=>some (.wn l n)
 | .s l a b c=>match d0 l p,d0 l q with
  |true,_=>some .any
  |false,true=>some (.s p a b c)
  |false,false=>some (.s l a b c)
 | .p l k=>match d0 l p,d0 l q with
  |true,_=>some .any
  |false,true=>some (.p p k)
  |false,false=>some (.p l k)
 | .e l a b c=>match d0 l p,d0 l q with
  |true,_=>some .any
  |false,true=>some (.e p a b c)
  |false,false=>some (.e l a b c)
 |c=>some c
def Dy (p q:Nat):Laa->Option Laa
 |[]=>some []
 |(k,.var t cs)::r=>match d0 k p,d0 k q,qA (FB p q) cs,Dy p q r with
  |true,_,_,some r'=>some r'
  |false,true,some cs',some r'=>some ((p,.var t cs')::r')
  |false,false,some cs',some r'=>some ((k,.var t cs')::r')
  |_,_,_,_=>none
 |(k,.row t sz els g m)::r=>match d0 k p,d0 k q,Dy p q r with
  |true,_,some r'=>some r'
  |false,true,some r'=>some ((p,.row t sz els g m)::r')
  |false,false,some r'=>some ((k,.row t sz els g m)::r')
  |_,_,_=>none
 |(k,.rown t sz els g)::r=>match d0 k p,d0 k q,Dy p q r with
  |true,_,some r'=>some r'
  |false,true,some r'=>some ((p,.rown t sz els g)::r')
  |false,false,some r'=>some ((k,.rown t sz els g)::r')
  |_,_,_=>none
 |(k,.abs j y)::r=>match d0 k p,d0 k q,Dy p q r with
  |true,_,some r'=>some r'
  |false,true,some r'=>some ((p,.abs j y)::r')
  |false,false,some r'=>some ((k,.abs j y)::r')
  |_,_,_=>none
def Env.ren (E:Env) (p q:Nat):Env:={E with r:=λl=>if l=p then E.r q else if l=q then none else E.r l,n:=λl=>if l=p then E.n q else E.n l}
def L9 (p q l:Nat):Nat:=if l=q then p else l
def Cv (p q:Nat):Ob->Ob->Prop
 | .var t cs,y=>∃cs',qA (FB p q) cs=some cs'/\y= .var t cs'
 |x,y=>y=x
theorem JY {p q:Nat} (hpq:p≠q) {l:Nat} {y:Ob}:∀{ob ob':Laa},Dy p q ob=some ob'->go ob' l=some y->∃l0 x,l0≠p/\l=L9 p q l0/\go ob l0=some x/\Cv p q x y
 |[],ob',h,hy=>by simp[Dy] at h;subst h;cases hy
 |(k,x)::r,ob',h,hy=>by
  have key:∀(x':Ob) (r':Laa),Cv p q x x'->Dy p q r=some r'->(d0 k p=true/\ob'=r')\/(d0 k p=false/\d0 k q=true/\ob'=(p,x')::r')\/(d0 k p=false/\d0 k q=false/\ob'=(k,x')::r')->
   ∃l0 x0,l0≠p/\l=L9 p q l0/\go ((k,x)::r) l0=some x0/\Cv p q x0 y:=by
   intro x' r' hx hr hc
   have hrec:go r' l=some y->∃l0 x0,l0≠p/\l=L9 p q l0/\go r l0=some x0/\Cv p q x0 y:=λh=>JY hpq hr h
   rcases hc with⟨h1,rfl⟩|⟨h1,h2,rfl⟩|⟨h1,h2,rfl⟩
   .obtain⟨l0,x0,a1,a2,a3,a4⟩:=hrec hy
    have:=aad h1
    subst this
    exact⟨l0,x0,a1,a2,by rw[b7 _ _ (Ne.symm a1)];exact a3,a4⟩
   .have:=aad h2
    subst this
    by_cases e:p=l
    .subst e
     rw[cU] at hy;cases hy
     exact⟨k,x,jD h1,by simp[L9],cU _ _ _,hx⟩
    rw[b7 _ _ e] at hy
    obtain⟨l0,x0,a1,a2,a3,a4⟩:=hrec hy
    have hl0:k≠l0:=λe'=>e (by rw[a2,<-e'];simp[L9])
    exact⟨l0,x0,a1,a2,by rw[b7 _ _ hl0];exact a3,a4⟩
   have hkp:=jD h1
   have hkq:=jD h2
   by_cases e:k=l
   .subst e
    rw[cU] at hy;cases hy
    exact⟨k,x,hkp,by simp[L9,hkq],cU _ _ _,hx⟩
   rw[b7 _ _ e] at hy
   obtain⟨l0,x0,a1,a2,a3,a4⟩:=hrec hy
   have hl0:k≠l0:=λe'=>e (by rw[a2,<-e'];simp[L9,hkq])
   exact⟨l0,x0,a1,a2,by rw[b7 _ _ hl0];exact a3,a4⟩
  cases x with
  |var t cs=>
   simp only[Dy] at h
   split at h
   .rename_i h1 h2
    cases h
    cases hm:qA (FB p q) cs with
    |some cs'=>exact key (.var t cs') _ ⟨cs',hm,rfl⟩ h2 (.inl ⟨h1,rfl⟩)
    |none=>
     obtain⟨l0,x0,a1,a2,a3,a4⟩:=JY hpq h2 hy
     have:=aad h1
     subst this
     exact⟨l0,x0,a1,a2,by rw[b7 _ _ (Ne.symm a1)];exact a3,a4⟩
   .rename_i h1 h2 h3 h4;cases h;exact key _ _ ⟨_,h3,rfl⟩ h4 (.inr (.inl ⟨h1,h2,rfl⟩))
   .rename_i h1 h2 h3 h4;cases h;exact key _ _ ⟨_,h3,rfl⟩ h4 (.inr (.inr ⟨h1,h2,rfl⟩))
   cases h
  |row t sz els g m=>
   simp only[Dy] at h
   split at h
   .rename_i h1 h2;cases h;exact key _ _ (show Cv p q (.row t sz els g m) (.row t sz els g m) from rfl) h2 (.inl ⟨h1,rfl⟩)
   .rename_i h1 h2 h3;cases h;exact key _ _ (show Cv p q (.row t sz els g m) (.row t sz els g m) from rfl) h3 (.inr (.inl ⟨h1,h2,rfl⟩))
   .rename_i h1 h2 h3;cases h;exact key _ _ (show Cv p q (.row t sz els g m) (.row t sz els g m) from rfl) h3 (.inr (.inr ⟨h1,h2,rfl⟩))
   cases h
  |rown t sz els g=>
   simp only[Dy] at h
   split at h
   .rename_i h1 h2;cases h;exact key _ _ (show Cv p q (.rown t sz els g) (.rown t sz els g) from rfl) h2 (.inl ⟨h1,rfl⟩)
   .rename_i h1 h2 h3;cases h;exact key _ _ (show Cv p q (.rown t sz els g) (.rown t sz els g) from rfl) h3 (.inr (.inl ⟨h1,h2,rfl⟩))
   .rename_i h1 h2 h3;cases h;exact key _ _ (show Cv p q (.rown t sz els g) (.rown t sz els g) from rfl) h3 (.inr (.inr ⟨h1,h2,rfl⟩))
   cases h
  |abs j z=>
   simp only[Dy] at h
   split at h
   .rename_i h1 h2;cases h;exact key _ _ (show Cv p q (.abs j z) (.abs j z) from rfl) h2 (.inl ⟨h1,rfl⟩)
   .rename_i h1 h2 h3;cases h;exact key _ _ (show Cv p q (.abs j z) (.abs j z) from rfl) h3 (.inr (.inl ⟨h1,h2,rfl⟩))
   .rename_i h1 h2 h3;cases h;exact key _ _ (show Cv p q (.abs j z) (.abs j z) from rfl) h3 (.inr (.inr ⟨h1,h2,rfl⟩))
   cases h
theorem MS {ob:Laa} (p q:Nat) (hp:rsp p=false:=by exact rfl) (hq:rsv q=false:=by exact rfl) (hpq:d0 p q=false:=by exact rfl) (hpn:nlt p nx=true:=by exact rfl) (hs:Cn (FB p q) sl=some sl':=by exact rfl) (hb:Dy p q ob=some ob':=by exact rfl):dS N ⟨sl,ob,nx⟩ ⟨sl',ob',nx⟩:=by
 have hne:=jD hpq
 intro cx E a w hR
 have hrp:(E.ren p q).r p=E.r q:=by simp[Env.ren]
 have hrl:∀l,l≠p->l≠q->(E.ren p q).r l=E.r l:=λl h1 h2=>by simp[Env.ren,h1,h2]
 have hnp:(E.ren p q).n p=E.n q:=by simp[Env.ren]
 have hnl:∀l,l≠p->(E.ren p q).n l=E.n l:=λl h1=>by simp[Env.ren,h1]
 have hr2:∀l b c,(E.ren p q).r l=some (b,c)->(l=p/\E.r q=some (b,c))\/(l≠p/\l≠q/\E.r l=some (b,c)):=by
  intro l b c h
  simp only[Env.ren] at h
  split at h
  .exact .inl ⟨by assumption,h⟩
  split at h
  .cases h
  exact .inr ⟨by assumption,by assumption,h⟩
 have hf:∀c c' u,FB p q c=some c'->cvC E w c u->cvC (E.ren p q) w c' u:=by
  intro c c' u h hc
  cases c with
  |w l n=>
   simp only[FB] at h
   split at h
   .cases h;trivial
   .rename_i h1 h2;cases h;have:=aad h2;subst this;obtain⟨b,k,h3,h4⟩:=hc;exact⟨b,k,hrp.trans h3,h4⟩
   rename_i h1 h2;cases h;obtain⟨b,k,h3,h4⟩:=hc;exact⟨b,k,(hrl _ (jD h1) (jD h2)).trans h3,h4⟩
  |wn l n=>
   simp only[FB] at h
   split at h
   .cases h;trivial
   .rename_i h1 h2;cases h;have:=aad h2;subst this
    rcases hc with⟨h3,h4⟩|⟨h3,b,k,h5,h6⟩
    .exact .inl ⟨by rw[hnp];exact h3,h4⟩
    exact .inr ⟨by rw[hnp];exact h3,b,k,hrp.trans h5,h6⟩
   rename_i h1 h2;cases h
   rcases hc with⟨h3,h4⟩|⟨h3,b,k,h5,h6⟩
   .exact .inl ⟨by rw[hnl _ (jD h1)];exact h3,h4⟩
   exact .inr ⟨by rw[hnl _ (jD h1)];exact h3,b,k,(hrl _ (jD h1) (jD h2)).trans h5,h6⟩
  |s l a1 a2 a3=>
   simp only[FB] at h
   split at h
   .cases h;trivial
   .rename_i h1 h2;cases h;have:=aad h2;subst this;obtain⟨A,c,b,k,h3,h4⟩:=hc;exact⟨A,c,b,k,hrp.trans h3,h4⟩
   rename_i h1 h2;cases h;obtain⟨A,c,b,k,h3,h4⟩:=hc;exact⟨A,c,b,k,(hrl _ (jD h1) (jD h2)).trans h3,h4⟩
  |p l n=>
   simp only[FB] at h
   split at h
   .cases h;trivial
   .rename_i h1 h2;cases h;have:=aad h2;subst this;obtain⟨b,k,h3,h4⟩:=hc;exact⟨b,k,hrp.trans h3,h4⟩
   rename_i h1 h2;cases h;obtain⟨b,k,h3,h4⟩:=hc;exact⟨b,k,(hrl _ (jD h1) (jD h2)).trans h3,h4⟩
  |e l a1 a2 a3=>
   simp only[FB] at h
   split at h
   .cases h;trivial
   .rename_i h1 h2;cases h;have:=aad h2;subst this;obtain⟨b,k,h3,h4⟩:=hc;exact⟨b,k,hrp.trans h3,h4⟩
   rename_i h1 h2;cases h;obtain⟨b,k,h3,h4⟩:=hc;exact⟨b,k,(hrl _ (jD h1) (jD h2)).trans h3,h4⟩
  |_=>simp only[FB] at h;cases h;exact hc
 have ok:=hR.ok
 have hback:∀l b c,(E.ren p q).r l=some (b,c)->∃l',E.r l'=some (b,c):=λl b c h=>(hr2 l b c h).elim (λh=>⟨q,h.2⟩) (λh=>⟨l,h.2.2⟩)
 refine⟨E.ren p q,⟨ok.fb,ok.gf,ok.gn,λl b c h=>?_,λl l' b c c' h h'=>?_,ok.os,ok.tape,ok.output,ok.size,ok.block,λl x hv h=>?_,ok.ff,ok.gc,⟨λl b h=>?_,ok.sf.tt,λb h=>?_,ok.sf.zs,ok.sf.ze⟩⟩,λl x h=>?_,λl y hl=>?_,λk=>Bn hf hs (hR.sl k),hR.dfr,hR.size,hR.td⟩
 .rcases hr2 l b c h with⟨_,h⟩|⟨_,_,h⟩
  .obtain⟨k1,k2⟩:=ok.rb _ _ _ h
   exact⟨k1,.inl (k2.resolve_right (λk=>by rw[hq] at k;cases k.2))⟩
  exact ok.rb l b c h
 .rcases hr2 l b c h with⟨rfl,k3⟩|⟨k1,k2,k3⟩<;>rcases hr2 l' b c' h' with⟨e,m3⟩|⟨m1,m2,m3⟩
  .exact e.symm
  .exact absurd (ok.inj _ _ _ _ _ m3 k3) m2
  .exact absurd (ok.inj _ _ _ _ _ k3 m3) k2
  exact ok.inj _ _ _ _ _ k3 m3
 .obtain⟨b,c⟩:=x
  rcases hr2 l b c h with⟨rfl,_⟩|⟨_,_,h⟩
  .rw[hp] at hv;cases hv
  exact ok.pin l _ hv h
 .obtain⟨k1,k2,k3,k4⟩:=ok.sf.tb l b h
  exact⟨k1,k2,λl' c hl=>(hback l' b c hl).elim λl'' h''=>k3 l'' c h'',k4⟩
 .obtain⟨k1,k2,k3,k4⟩:=ok.sf.zc b h
  exact⟨k1,k2,λl' c hl=>(hback l' b c hl).elim λl'' h''=>k3 l'' c h'',k4⟩
 .obtain⟨b,c⟩:=x
  rcases hr2 l b c h with⟨rfl,_⟩|⟨_,_,h⟩
  .exact dr hpn
  exact hR.dom l _ h
 obtain⟨l0,x,a1,a2,a3,a4⟩:=JY hne hb hl
 have hx:=hR.obs l0 x a3
 have hlab:(E.ren p q).r l=E.r l0/\(E.ren p q).n l=E.n l0:=by
  subst a2
  unfold L9
  split
  .rename_i e;subst e;exact⟨hrp,hnp⟩
  rename_i e;exact⟨hrl _ a1 e,hnl _ a1⟩
 cases x with
 |var t cs=>
  obtain⟨cs',h1,rfl⟩:=a4
  obtain⟨b,c,arr,k1,k2,k3,k4⟩:=hx
  exact⟨b,c,arr,hlab.1.trans k1,k2,vk hf h1 k3,k4⟩
 |row t sz els g m=>
  have a4:y= .row t sz els g m:=a4
  subst a4
  obtain⟨b,c,arr,k1,k2⟩:=hx
  exact⟨b,c,arr,hlab.1.trans k1,k2⟩
 |rown t sz els g=>
  have a4:y= .rown t sz els g:=a4
  subst a4
  rcases hx with⟨h1,h2⟩|⟨h1,b,c,arr,k1,k2⟩
  .exact .inl ⟨by rw[hlab.2];exact h1,h2⟩
  exact .inr ⟨by rw[hlab.2];exact h1,b,c,arr,hlab.1.trans k1,k2⟩
 |abs j z=>
  have a4:y= .abs j z:=a4
  subst a4
  rcases hx with⟨h1,h2⟩|⟨h1,b,c,k1,k2⟩
  .exact .inl ⟨by rw[hlab.2];exact h1,h2⟩
  exact .inr ⟨by rw[hlab.2];exact h1,b,c,hlab.1.trans k1,k2⟩
structure VIn (E:Env) (w:World):Prop where
 fb:∀b,E.F b->b<w.heap.size
 gf:∀b,E.G b->E.F b
 rb:∀o b c,E.r o=some (b,c)->b<w.heap.size/\rsv o=true/\¬E.F b
 inj:∀o o' b c c',E.r o=some (b,c)->E.r o'=some (b,c')->o=o'
 T:∀l b,¬E.T l b
 Z:∀b,¬E.Z b
structure VOut (E:Env) (w:World) (E':Env) (w':World):Prop where
 past:IK w w' (λk=>∃o c,E.r o=some (k,c))
 fb:∀b,E'.F b->b<w'.heap.size
 f0:∀b,E'.F b->E.F b\/(w.heap.size<=b/\jL w' b)
 F:∀b,E.F b->E'.F b
 G:∀b,E.G b->E'.G b
 gf:∀b,E'.G b->E'.F b
 g0:∀b,E'.G b->w.heap.size<=b\/E.G b
 rb:∀o b c,E'.r o=some (b,c)->b<w'.heap.size/\(w.heap.size<=b\/((∃o' c',E.r o'=some (b,c'))/\rsv o=true))
 inj:∀o o' b c c',E'.r o=some (b,c)->E'.r o'=some (b,c')->o=o'
 pin:∀o x,rsp o=true->E'.r o=some x->E.r o=some x
structure FnV (P:Program) (f:FuncId) (xs:Laa) (args:List T) (ys:Laa) (out:T) (nw:Laa):Prop where
 enters:∀(vs:Array Value) (w:World),(callFunc f vs).run P w= .ok (.enter f vs) w
 calls:∀(E:Env) (w:World) (vals:Array Value),VIn E w->TabsIn w->(∀k∈wH,∀o c,E.r o≠some (k,c))->(∀l x,go xs l=some x->dm E w l x)->TV E w args vals.toList->
  Calls P f vals w λe w'=>∃v E',e= .returned v/\VOut E w E' w'/\cvT E' w' out v/\(∀l y,go ys l=some y->dm E' w' l y)/\(∀l y,go nw l=some y->dm E' w' l y)
def U9:List V->T
 |[v]=>.v v
 |vs=>.tup vs
def LoA (ob:Laa):Laa->Prop
 |[]=>True
 |(l,x)::r=>go ob l=some x/\LoA ob r
theorem IJ {ob:Laa}:∀{l:Laa} {k:Nat} {x:Ob},LoA ob l->go l k=some x->go ob k=some x
 |(j,y)::r,k,x,h,hg=>by
  by_cases e:j=k
  .subst e;rw[cU] at hg;cases hg;exact h.1
  rw[b7 _ _ e] at hg;exact IJ h.2 hg
def xu (N:Nat) (P:Program) (rs:List ResultVar) (ys:Laa) (out:T) (nw:Laa):Exit->St->Prop
 | .ret,s| .normal,s=>∃s' vs,dS N s s'/\pD P s' rs vs/\U9 vs=out/\LoA s'.ob ys/\LoA s'.ob nw
 |_,_=>False
instance {N:Nat} {P:Program} {rs:List ResultVar} {ys:Laa} {out:T} {nw:Laa}:Clo N (xu N P rs ys out nw):=⟨λe s m hw h=>by
 cases e<;>simp only[xu] at h ⊢<;>first|exact h|(obtain⟨s',vs,h1,h2⟩:=h;exact⟨s',vs,an hw h1,h2⟩)⟩
theorem dR {e:Exit} {m:St} (hw:dS N s m) (h:zV N P rs res e m):zV N P rs res e s:=Clo.h (N:=N) _ _ _ hw h
theorem bF {e:Exit} {m:St} (hw:dS N s m) (h:xu N P rs ys out nw e m):xu N P rs ys out nw e s:=Clo.h (N:=N) _ _ _ hw h
theorem cg {vs:List V} (h:pD P s rs vs:=by repeat' (first|exact .nil|apply pD.cons|exact .tmp rfl|exact .cell rfl rfl rfl|exact .cell1 rfl rfl)) (ho:U9 vs=out':=by exact rfl) (e:out'=out:=by first|rfl|simp) (hy:LoA s.ob ys:=by repeat (first|exact trivial|refine⟨rfl,?_⟩)) (hn:LoA s.ob nw:=by repeat (first|exact trivial|refine⟨rfl,?_⟩)):xu N P rs ys out nw .ret s:=by
 subst e;exact⟨s,vs,zo s,h,ho,hy,hn⟩
theorem mO {vs:List V} (h:pD P s rs vs:=by repeat' (first|exact .nil|apply pD.cons|exact .tmp rfl|exact .cell rfl rfl rfl|exact .cell1 rfl rfl)) (ho:U9 vs=out':=by exact rfl) (e:out'=out:=by first|rfl|simp) (hy:LoA s.ob ys:=by repeat (first|exact trivial|refine⟨rfl,?_⟩)) (hn:LoA s.ob nw:=by repeat (first|exact trivial|refine⟨rfl,?_⟩)):xu N P rs ys out nw .normal s:=by
 subst e;exact⟨s,vs,zo s,h,ho,hy,hn⟩
theorem rsv_lt {o:Nat} (h:rsv o=true):o<210:=by
 simp only[rsv,nlt,hV,Nat.ble_eq] at h;omega
theorem T8   {fn:Func} {c:Code}  {xs:Laa} {args:List T}    {sl0:Lab} (hf:P.funcs[f]?=some fn) (hb:fn.body=some c:=by exact rfl) (hnm:(fn.name== "runtime.NumGoroutine")=false:=by kernel_rfl) (hN:fn.ntmps=N) (hrs:fn.results.toList=rs:=by exact rfl)
 (ha:aaz args.length N=true:=by exact rfl) (hs:xB 0 args=sl0:=by exact rfl) (h:AWC P N c ⟨sl0,xs,210⟩ (xu N P rs ys out nw)):FnV P f xs args ys out nw:=by
 subst hs
 refine⟨λvs w=>by simp[callFunc,hf,hb];simpa using hnm,λE w vals hI hT hTb hx hA=>?_⟩
 subst hrs
 refine calls_of_wp hf hb ?_
 obtain⟨h1,h2⟩:=DE 0 hA
 have hle:args.length<=N:=aaO ha
 have hsz:vals.size=args.length:=by simpa using h1
 have hR:Rel N ⟨w,λk=>∃o c,E.r o=some (k,c),E.r,E.F,λ_=>False,⟨hT,λk hk ⟨o,c,h⟩=>hTb k hk o c h⟩,E.G⟩ E ⟨xB 0 args,xs,210⟩ {tmps:=vals++aak (fn.ntmps-vals.size) undef,defers:=[]} w:=by
  refine⟨⟨hI.fb,hI.gf,λ_ h=>.inr h,λo k k' h=>?_,hI.inj,rfl,rfl,rfl,aah _,λ_ _ _=>rfl,λ_ _ _ h=>h,λ_ h=>.inl h,λb h h'=>absurd (hI.fb b h) (by have:w.heap.size<=b:=h';omega),⟨λl b h=>absurd h (hI.T l b),λl _ b h=>absurd h (hI.T l b),λ_ h=>h.elim,λ_ h=>h.elim,λb h=>absurd h (hI.Z b)⟩⟩,λo p h=>?_,λo ob h=>hx o ob h,λk=>?_,rfl,by simp;omega,λl b h=>absurd h (hI.T l b)⟩
  .obtain⟨k1,k2,_⟩:=hI.rb o k k' h;exact⟨k1,.inr ⟨⟨o,k',h⟩,k2⟩⟩
  .exact rsv_lt (hI.rb o p.1 p.2 h).2.1
  by_cases hk:k<args.length
  .obtain⟨u,h3,h4⟩:=(h2 k).1 ⟨aas _,by omega⟩
   have:(vals++aak (fn.ntmps-vals.size) undef).getD k undef=u:=by
    have h5:vals[k]?=some u:=by simpa using h3
    have h6:(vals++aak (fn.ntmps-vals.size) undef)[k]?=some u:=by rw[abp oaa];exact h5
    simp[h6]
   rw[this];exact h4
  have:=(h2 k).2 oaa
  show cvT _ w (gt (xB 0 args) k) _
  rw[this];trivial
 refine wp_mono (h _ _ _ w hR) ?_
 rintro e a' w' ⟨E',s',hR',hq⟩
 have fin:(∃s'' vs,dS N s' s''/\pD P s'' fn.results.toList vs/\U9 vs=out/\LoA s''.ob ys/\LoA s''.ob nw)->
  a'.defers=[]/\∃v,(results fn a'.tmps).run P w'= .ok v w'/\∃v' E',Ending.returned v= .returned v'/\VOut E w E' w'/\cvT E' w' out v'/\(∀l y,go ys l=some y->dm E' w' l y)/\(∀l y,go nw l=some y->dm E' w' l y):=by
  rintro⟨s'',vs,hw,hres,ho,hys,hnw⟩
  obtain⟨E'',hR''⟩:=hw _ _ _ _ hR'
  have ok:=hR''.ok
  obtain⟨us,k1,k2⟩:=xv hR'' hres
  have hm:(fn.results.mapM (nQ a'.tmps)).run P w'= .ok us.toArray w':=by
   rw[<-aaV (xs:=fn.results),abt]
   simp only[Sem.run_map,k1]
   rfl
  have hrr:results fn a'.tmps=(fn.results.mapM (nQ a'.tmps))>>= λvs=>pure (if h:vs.size=1 then vs[0] else .tuple vs):=rfl
  have hv:∃v,(results fn a'.tmps).run P w'= .ok v w'/\cvT E'' w' out v:=by
   subst ho
   match vs,us,k2 with
   |[],[],_=>exact⟨.tuple #[],by rw[hrr];simp[hm],#[],rfl,trivial⟩
   |[v],[u],k2=>exact⟨u,by rw[hrr];simp[hm],k2.1⟩
   |v1::v2::vs,u1::u2::us,k2=>exact⟨.tuple (u1::u2::us).toArray,by rw[hrr];simp[hm],_,rfl,k2⟩
  obtain⟨v,q1,q2⟩:=hv
  have hk:lf E'' w' {E'' with F:=λb=>E''.F b\/E.F b,G:=λb=>E''.G b\/E.G b} w':=⟨λ_ _ h=>h,λg b h=>by cases g<;>exact .inl h,λ_ _ _=>rfl,λ_ _ h=>⟨h,rfl⟩,λ_ h=>⟨h,.refl _ _⟩,rfl⟩
  have hob:∀l y,go s''.ob l=some y->dm {E'' with F:=λb=>E''.F b\/E.F b,G:=λb=>E''.G b\/E.G b} w' l y:=λl y h=>
   gU hk (λ_ _ _=>rfl) (λb c hr hn hF=>hF.elim hn (λhF=>by
    rcases(ok.rb l b c hr).2 with k|⟨⟨o,c',k⟩,_⟩
    .have:=hI.fb b hF;simp only at k;omega
    exact(hI.rb o b c' k).2.2 hF)) (hR''.obs l y h)
  refine⟨hR''.dfr,v,q1,v,{E'' with F:=λb=>E''.F b\/E.F b,G:=λb=>E''.G b\/E.G b},rfl,⟨⟨ok.os,ok.tape,ok.output,ok.size,ok.block⟩,λb h=>h.elim (ok.fb b) (λh=>by have:=hI.fb b h;have:=ok.size;simp only at this;omega),λb h=>h.elim (λh=>(ok.ff b h).elim .inl (λk=>.inr ⟨k,ok.gc b h k⟩)) .inl,λb h=>.inr h,λb h=>.inr h,λb h=>h.imp (ok.gf b) (hI.gf b),λb h=>h.elim (ok.gn b) .inr,λo b c h=>?_,ok.inj,λo x hv h=>?_⟩,?_,?_,?_⟩
  .obtain⟨m1,m2⟩:=ok.rb o b c h
   exact⟨m1,m2⟩
  .exact ok.pin o x hv h
  .exact kT hk q2
  .exact λl y h=>hob l y (IJ hys h)
  exact λl y h=>hob l y (IJ hnw h)
 cases e with
 |normal=>exact fin hq
 |ret=>exact fin hq
 |_=>exact hq.elim
def dY:Lac->Nat->Option Nat
 |[],_=>none
 |(a,b)::r,n=>match d0 a n with
  |true=>some b
  |false=>dY r n
def inv:Lac->Lac
 |[]=>[]
 |(a,b)::r=>(b,a)::inv r
theorem eD {a b:Nat}:∀{m:Lac},dY m a=some b->(a,b)∈m
 |(x,y)::r,h=>by
  simp only[dY] at h
  split at h
  .rename_i hb;have:=aad hb;subst this;cases h;exact .head _
  exact .tail _ (eD h)
theorem jW {a b:Nat}:∀{m:Lac},(m.map (·.1)).Nodup->(a,b)∈m->dY m a=some b
 |(x,y)::r,hn,h=>by
  simp only[dY]
  simp only[aaB,aaY] at hn
  rcases aae.1 h with e|h
  .cases e;simp
  have hne:x≠a:=λe=>hn.1 (by subst e;exact aa7.2 ⟨_,h,rfl⟩)
  rw[nH hne];exact jW hn.2 h
theorem rG {a b:Nat}:∀{m:Lac},(b,a)∈inv m↔(a,b)∈m
 |[]=>by simp[inv]
 |(x,y)::r=>by
  simp only[inv,aae,Prod.mk.injEq,rG (m:=r)]
  constructor
  .rintro(⟨h1,h2⟩|h)
   .exact .inl ⟨h2,h1⟩
   exact .inr h
  rintro(⟨h1,h2⟩|h)
  .exact .inl ⟨h2,h1⟩
  exact .inr h
theorem xT:∀(m:Lac),(inv m).map (·.1)=m.map (·.2)
 |[]=>rfl
 |(x,y)::r=>by simp[inv,xT r]
def rlC (m:Lac):C->Option C
 | .d g x=>some (.d g x)
 | .nil=>some .nil
 | .any=>some .any
 | .fn f=>some (.fn f)
 | .w l n=>match dY m l with
  |some k=>some (.w k n)
  |none=>none
 | .wn l n=>match dY m l with
  |some k=>some (.wn k n)
  |none=>none
 | .p l j=>match dY m l with
  |some k=>some (.p k j)
  |none=>none
 |_=>none
def rlB (ob:Laa) (m:Lac):C->Option C
 | .d g x=>some (.d g x)
 | .nil=>some .nil
 | .any=>some .any
 | .fn f=>some (.fn f)
 | .w l n=>match dY m l,go ob l with
  |some k,some (.row ..)=>some (.w k n)
  |_,_=>none
 | .wn l n=>match dY m l,go ob l with
  |some k,some (.rown ..)=>some (.wn k n)
  |_,_=>none
 | .p l j=>match dY m l,go ob l with
  |some k,some (.var ..)=>some (.p k j)
  |_,_=>none
 |_=>none
def agC (up:Bool) (ob:Laa) (m:Lac):C->Option C
 | .d g x=>some (.d (up&&g) x)
 | .nil=>some (.d up (.l []))
 |c=>rlB ob m c
def xg (f:C->Option C):List T->Option (List T)
 |[]=>some []
 |c::cs=>match Bo f c,xg f cs with
  |some x,some xs=>some (x::xs)
  |_,_=>none
def G5 (f:C->Option C):Ob->Option Ob
 | .var t cs=>match qA f cs with
  |some cs'=>some (.var t cs')
  |none=>none
 | .row t sz els g true=>some (.row t sz els g true)
 | .row _ _ _ _ false=>none
 | .rown t sz els g=>some (.rown t sz els g)
 | .abs _ _=>none
def Bw (mi:Lac) (ob:Laa):Lac->Option Laa
 |[]=>some []
 |(k,o)::r=>match go ob o with
  |some x=>match G5 (rlB ob mi) x,Bw mi ob r with
   |some y,some ys=>some ((k,y)::ys)
   |_,_=>none
  |none=>none
def xi (m:Lac):Laa->Option Laa
 |[]=>some []
 |(k,x)::r=>match dY m k,G5 (rlC m) x,xi m r with
  |some o,some y,some ys=>some ((o,y)::ys)
  |_,_,_=>none
def kvC (mi:Lac):C->Option C
 | .w l n=>match dY mi l with
  |some _=>some .any
  |none=>some (.w l n)
 | .wn l n=>match dY mi l with
  |some _=>some .any
  |none=>some (.wn l n)
 | .s l a b c=>match dY mi l with
  |some _=>some .any
  |none=>some (.s l a b c)
 | .e l a b c=>match dY mi l with
  |some _=>some .any
  |none=>some (.e l a b c)
 | .p l j=>match dY mi l with
  |some k=>match rsp k with
   |true=>some (.p l j)
   |false=>some .any
  |none=>some (.p l j)
 |c=>some c
def Ul (ys:Laa) (k:Nat):Bool:=match go ys k with
 |some (.var ..)=>true
 |_=>false
def OT (nx:Nat):Lac->Nat->Bool
 |[],n=>d0 n nx
 |(k,o)::r,n=>((d0 o nx&&!rsv nx)&&!rsv k)&&OT (nx+1) r n
def mOK (m nl:Lac) (nx n:Nat) (ys:Laa):Bool:=
 ((oR ((m++nl).map (·.1))&&oR ((m++nl).map (·.2)))&&(m.all (λp=>rsv p.1&&nlt p.2 nx)&&OT nx nl n))&&
  ((m.all (λp=>rsp p.1||rsv p.2)||m.all (λp=>rsp p.1||!rsv p.2))&&m.all (λp=>(!rsp p.2||rsp p.1)&&((!rsp p.1||Ul ys p.1)&&(go ys p.1).isSome)))
theorem KZ:∀{nl:Lac} {nx n:Nat},OT nx nl n=true->nx<=n/\∀k o,(k,o)∈nl->nx<=o/\o<n/\rsv o=false/\rsv k=false
 |[],nx,n,h=>by have:=aad h;subst this;exact⟨aah _,by simp⟩
 |(k,o)::r,nx,n,h=>by
  simp only[OT,hV,aax] at h
  obtain⟨⟨⟨h1,h2⟩,h3⟩,h4⟩:=h
  have:=aad h1
  subst this
  obtain⟨k1,k2⟩:=KZ h4
  refine⟨by omega,λk' o' hm=>?_⟩
  rcases aae.1 hm with e|hm
  .cases e;exact⟨aah _,by omega,h2,h3⟩
  have:=k2 k' o' hm;exact⟨by omega,this.2.1,this.2.2⟩
theorem Fp {f:C->Option C} {E E':Env} {w w':World} (hf:∀c c' u,f c=some c'->cvC E w c u->cvC E' w' c' u) {a:Act}:∀{ts ts':List T} {args:List Operand},xg f ts=some ts'->ts.length=args.length->(∀x t,(x,t)∈args.zip ts->cvT E w t (a.eval x))->TV E' w' ts' (args.map a.eval)
 |[],ts',args,h,hl,hn=>by
  simp[xg] at h;subst h
  cases args with
  |nil=>trivial
  |cons _ _=>simp at hl
 |t::ts,ts',args,h,hl,hn=>by
  simp only[xg] at h
  split at h
  .rename_i h1 h2
   simp at h;subst h
   cases args with
   |nil=>simp at hl
   |cons y args=>exact⟨Bp hf h1 (hn y t (by simp)),Fp hf h2 (by simpa using hl) (λx t hm=>hn x t (by simp[hm]))⟩
  cases h
theorem L1 {mi:Lac} {ob:Laa}:∀{m:Lac} {xs:Laa} {l:Nat} {x:Ob},Bw mi ob m=some xs->go xs l=some x->∃o x0,dY m l=some o/\go ob o=some x0/\G5 (rlB ob mi) x0=some x
 |[],xs,l,x,h,hg=>by simp[Bw] at h;subst h;cases hg
 |(k,o)::r,xs,l,x,h,hg=>by
  simp only[Bw] at h
  split at h
  .rename_i x0 h0
   split at h
   .rename_i y ys h1 h2
    simp at h;subst h
    by_cases e:k=l
    .subst e;rw[cU] at hg;cases hg;exact⟨o,x0,by simp[dY],h0,h1⟩
    rw[b7 _ _ e] at hg
    obtain⟨o',x',a1,a2,a3⟩:=L1 h2 hg
    exact⟨o',x',by simp only[dY,nH e];exact a1,a2,a3⟩
   cases h
  cases h
theorem H7 {mi:Lac} {ob:Laa}:∀{m:Lac} {xs:Laa} {k o:Nat},Bw mi ob m=some xs->(k,o)∈m->∃x0 x,go ob o=some x0/\G5 (rlB ob mi) x0=some x
 |(k',o')::r,xs,k,o,h,hm=>by
  simp only[Bw] at h
  split at h
  .rename_i x0 h0
   split at h
   .rename_i y ys h1 h2
    rcases aae.1 hm with e|hm
    .cases e;exact⟨x0,y,h0,h1⟩
    exact H7 h2 hm
   cases h
  cases h
theorem FF {m:Lac} (hinj:∀a a' b,dY m a=some b->dY m a'=some b->a=a'):∀{ys ys':Laa} {o:Nat} {y':Ob},xi m ys=some ys'->go ys' o=some y'->∃k y,dY m k=some o/\go ys k=some y/\G5 (rlC m) y=some y'
 |[],ys',o,y',h,hg=>by simp[xi] at h;subst h;cases hg
 |(k,x)::r,ys',o,y',h,hg=>by
  simp only[xi] at h
  split at h
  .rename_i o1 y1 ys1 h1 h2 h3
   simp at h;subst h
   by_cases e:o1=o
   .subst e;rw[cU] at hg;cases hg;exact⟨k,x,h1,cU _ _ _,h2⟩
   rw[b7 _ _ e] at hg
   obtain⟨k',y,a1,a2,a3⟩:=FF hinj h3 hg
   have hne:k≠k':=λe'=>by subst e';rw[h1] at a1;cases a1;exact e rfl
   exact⟨k',y,a1,by rw[b7 _ _ hne];exact a2,a3⟩
  cases h
theorem Uh {a b:Laa} {o:Nat} (h:go (a++b) o=some x):go a o=some x\/(go a o=none/\go b o=some x):=by
 induction a with
 |nil=>exact .inr ⟨rfl,h⟩
 |cons p r ih=>
  obtain⟨k,v⟩:=p
  by_cases e:k=o
  .subst e;rw[aaE,cU] at h;rw[cU];exact .inl h
  rw[aaE,b7 _ _ e] at h;rw[b7 _ _ e];exact ih h
theorem FG {m:Lac}:∀{ys ys':Laa} {k:Nat} {y:Ob},xi m ys=some ys'->go ys k=some y->∃o,dY m k=some o/\go ys' o≠none
 |(k',x)::r,ys',k,y,h,hg=>by
  simp only[xi] at h
  split at h
  .rename_i o1 y1 ys1 h1 h2 h3
   simp at h;subst h
   by_cases e:k'=k
   .subst e;exact⟨o1,h1,by rw[cU];simp⟩
   rw[b7 _ _ e] at hg
   obtain⟨o,a1,a2⟩:=FG h3 hg
   refine⟨o,a1,?_⟩
   by_cases e2:o1=o
   .subst e2;rw[cU];simp
   rw[b7 _ _ e2];exact a2
  cases h
theorem BA {f:C->Option C} {o:Nat} (h:G5 f x=some y) (hf:∀c c' u,f c=some c'->cvC E w c u->cvC E' w c' u) (hr:∀b c,¬(E.n l/\∃t sz els g,x= .rown t sz els g)->E.r l=some (b,c)->E'.r o=some (b,c)) (hn:E'.n o↔E.n l)
 (hH:∀g b,E.H g b->E'.H g b) (hF:∀b c,¬(E.n l/\∃t sz els g,x= .rown t sz els g)->E.r l=some (b,c)->¬E.F b->¬E'.F b) (hx:dm E w l x):dm E' w o y:=by
 cases x with
 |var t cs=>
  simp only[G5] at h
  split at h
  .rename_i h1;cases h
   obtain⟨b,c,arr,k1,k2,k3,k4⟩:=hx
   have hno:¬(E.n l/\∃t' sz els g,Ob.var t cs= .rown t' sz els g):=λ⟨_,_,_,_,_,h⟩=>by cases h
   exact⟨b,c,arr,hr b c hno k1,k2,vk hf h1 k3,hF b c hno k1 k4⟩
  cases h
 |row t sz els g mm=>
  cases mm with
  |false=>cases h
  |true=>
   cases h
   obtain⟨b,c,arr,k1,k2,k3,k4,k5,k6,k7,k8,_⟩:=hx
   have hno:¬(E.n l/\∃t' sz' els' g',Ob.row t sz els g true= .rown t' sz' els' g'):=λ⟨_,_,_,_,_,h⟩=>by cases h
   exact⟨b,c,arr,hr b c hno k1,k2,k3,k4,k5,k6,cX (λ_ _=>rfl) (hH g) rfl _ _ k7,λ_=>hF b c hno k1 (k8 rfl),λh=>by cases h⟩
 |rown t sz els g=>
  cases h
  rcases hx with⟨h1,h2⟩|⟨h1,b,c,arr,k1,k2,k3,k4,k5,k6,k7,k8⟩
  .exact .inl ⟨hn.2 h1,h2⟩
  exact .inr ⟨λk=>h1 (hn.1 k),b,c,arr,hr b c (λk=>h1 k.1) k1,k2,k3,k4,k5,k6,cX (λ_ _=>rfl) (hH g) rfl _ _ k7,hF b c (λk=>h1 k.1) k1 k8⟩
 |abs j z=>cases h
def ltF (n:Nat) (f:C->Option C) (c:C):Option C:=bif c.lt n then f c else some .any
theorem LK {n:Nat} {f:C->Option C}:∀{cs:List C},cs.all (C.lt n)=true->qA (ltF n f) cs=qA f cs
 |[],_=>rfl
 |c::cs,h=>by
  simp only[aaK,hV] at h
  simp only[qA,LK h.2,ltF,h.1,cond_true]
theorem Px {f:C->Option C} {v:V} (h:v.lt n=true):JC (ltF n f) v=JC f v:=by
 cases v with
 |c c=>have h:c.lt n=true:=h;simp only[JC,ltF,h,cond_true]
 |agg cs=>simp only[JC,LK (n:=n) (cs:=cs) h]
theorem LL {n:Nat} {f:C->Option C}:∀{cs:List V},cs.all (V.lt n)=true->CZ (ltF n f) cs=CZ f cs
 |[],_=>rfl
 |c::cs,h=>by
  simp only[aaK,hV] at h
  simp only[CZ,LL h.2,Px h.1]
theorem XC {f:C->Option C} {t:T} (h:t.lt n=true):Bo (ltF n f) t=Bo f t:=by
 cases t with
 |v v=>simp only[Bo,Px (n:=n) (v:=v) h]
 |tup vs=>simp only[Bo,LL (n:=n) (cs:=vs) h]
 |any=>rfl
theorem Pw {n:Nat} {f:C->Option C}:∀{sl:Lab},Hn n sl=true->Cn (ltF n f) sl=Cn f sl
 |[],_=>rfl
 |(k,t)::r,h=>by
  simp only[Hn,hV] at h
  simp only[Cn,XC h.1,Pw h.2]
open Classical in
theorem PM {up:Bool} {d:Tmp} {ob:Laa} {xs ys' nw':Laa} {m nl:Lac}
 (hF:FnV P f xs ts' ys out nw) (ht:Bt sl args=some ts) (ha:xg (agC up ob (inv m)) ts=some ts') (hx:Bw (inv m) ob m=some xs) (hm:mOK m nl nx n ys=true) (hs:Cn (kvC (inv m)) sl=some sl') (hb:Ai (kvC (inv m)) (λ_ x=>some x) ob=some ob')
 (hy:xi (m++nl) ys=some ys') (hw:xi (m++nl) nw=some nw') (ho:Bo (rlC (m++nl)) out=some out') (hsl:Hn nx sl=true) (hol:C4 nx ob=true) (hN:nlt d N=true):
 AWO P N ⟨some d,.call ⟨.value (.func f),args.toArray,tys⟩,ty,ps,af,gd⟩ ⟨sl,ob,nx⟩ ⟨(d,out')::sl',nw'++(ys'++ob'),n⟩:=by
 intro cx E a w hR
 have ok:=hR.ok
 obtain⟨t1,t2⟩:=ub ht
 simp only[mOK,hV,aag,aam,aax] at hm
 obtain⟨⟨⟨hk1,hk2⟩,hm1,hc⟩,hu,hm2⟩:=hm
 have nd1:=kW hk1
 have nd2:=kW hk2
 obtain⟨hnn,hcu⟩:=KZ hc
 have ndm1:(m.map (·.1)).Nodup:=by rw[abb] at nd1;exact(abq.1 nd1).1
 have ndm2:(m.map (·.2)).Nodup:=by rw[abb] at nd2;exact(abq.1 nd2).1
 have inv_of:∀{k o},dY m k=some o->dY (inv m) o=some k:=λh=>jW (by rw[xT];exact ndm2) (rG.2 (eD h))
 have of_inv:∀{k o},dY (inv m) o=some k->dY m k=some o:=λh=>jW ndm1 (rG.1 (eD h))
 have inv_of':∀{k o},dY (m++nl) k=some o->dY (inv (m++nl)) o=some k:=λh=>jW (by rw[xT];exact nd2) (rG.2 (eD h))
 have of_inv':∀{k o},dY (inv (m++nl)) o=some k->dY (m++nl) k=some o:=λh=>jW nd1 (rG.1 (eD h))
 have look_m:∀{k o},dY m k=some o->dY (m++nl) k=some o:=λh=>jW nd1 (aac.2 (.inl (eD h)))
 have split:∀{k o},dY (m++nl) k=some o->dY m k=some o\/(k,o)∈nl:=λh=>(aac.1 (eD h)).imp (jW ndm1) id
 have linj:∀a a' b,dY m a=some b->dY m a'=some b->a=a':=λa a' b h h'=>by have h:=inv_of h;have h':=inv_of h';rw[h] at h';cases h';rfl
 have linj':∀a a' b,dY (m++nl) a=some b->dY (m++nl) a'=some b->a=a':=λa a' b h h'=>by have h:=inv_of' h;have h':=inv_of' h';rw[h] at h';cases h';rfl
 have mrs:∀{k o},dY m k=some o->rsv k=true/\o<nx:=λh=>⟨(hm1 _ (eD h)).1,dr (hm1 _ (eD h)).2⟩
 have pick:∀{k o},dY m k=some o->∃x0 x,go ob o=some x0/\G5 (rlB ob (inv m)) x0=some x:=λh=>H7 hx (eD h)
 let nilL:Nat->Prop:=λo=>E.n o/\∃t sz els g,go ob o=some (.rown t sz els g)
 let Ec:Env:={r:=λl=>match dY m l with|some o=>if nilL o then none else E.r o|none=>none,F:=E.F,G:=E.G,n:=λl=>∃o,dY m l=some o/\E.n o}
 have hEc:∀l p,Ec.r l=some p->∃o,dY m l=some o/\¬nilL o/\E.r o=some p:=by
  intro l p h
  have h:(match dY m l with|some o=>if nilL o then none else E.r o|none=>none)=some p:=h
  split at h
  .rename_i o h1
   split at h
   .cases h
   exact⟨o,h1,by assumption,h⟩
  cases h
 have hEc2:∀{l o p},dY m l=some o->¬nilL o->E.r o=some p->Ec.r l=some p:=by
  intro l o p h1 h2 h3
  show(match dY m l with|some o=>if nilL o then none else E.r o|none=>none)=some p
  rw[h1];simp only[h2,if_false];exact h3
 have hEn:∀{l o},dY m l=some o->(Ec.n l↔E.n o):=λh=>⟨λ⟨o',h1,h2⟩=>by rw[h] at h1;cases h1;exact h2,λh2=>⟨_,h,h2⟩⟩
 have nF:∀{l o b c},dY m l=some o->¬nilL o->E.r o=some (b,c)->¬E.F b:=by
  intro l o b c h1 h2 h3
  obtain⟨x0,x,a1,a2⟩:=pick h1
  have hx0:=hR.obs o x0 a1
  cases x0 with
  |var t cs=>obtain⟨b',c',arr,k1,k2,k3,k4⟩:=hx0;rw[h3] at k1;cases k1;exact k4
  |row t sz els g mm=>
   cases mm with
   |false=>cases a2
   |true=>obtain⟨b',c',arr,k1,k2,k3,k4,k5,k6,k7,k8,_⟩:=hx0;rw[h3] at k1;cases k1;exact k8 rfl
  |rown t sz els g=>
   rcases hx0 with⟨k0,_⟩|⟨_,b',c',arr,k1,k2,k3,k4,k5,k6,k7,k8⟩
   .exact absurd ⟨k0,_,_,_,_,a1⟩ h2
   rw[h3] at k1;cases k1;exact k8
  |abs j z=>cases a2
 have hVI:VIn Ec w:=⟨ok.fb,ok.gf,λl b c h=>by
  obtain⟨o,h1,h2,h3⟩:=hEc l _ h
  exact⟨(ok.rb o b c h3).1,(mrs h1).1,nF h1 h2 h3⟩,λl l' b c c' h h'=>by
  obtain⟨o,h1,h2,h3⟩:=hEc l _ h
  obtain⟨o',h1',h2',h3'⟩:=hEc l' _ h'
  have:=ok.inj _ _ _ _ _ h3 h3'
  subst this
  exact linj _ _ _ h1 h1',λ_ _ h=>h,λ_ h=>h⟩
 have hcB:∀c c' u,rlB ob (inv m) c=some c'->cvC E w c u->cvC Ec w c' u:=by
  intro c c' u h hc
  cases c with
  |w l n=>
   simp only[rlB] at h
   split at h
   .rename_i k _ _ _ _ _ h1 h2;cases h
    obtain⟨b,c,h3,h4⟩:=hc
    exact⟨b,c,hEc2 (of_inv h1) (λ⟨_,_,_,_,_,h⟩=>by rw[h2] at h;cases h) h3,h4⟩
   cases h
  |wn l n=>
   simp only[rlB] at h
   split at h
   .rename_i k _ _ _ _ h1 h2;cases h
    rcases hc with⟨h3,h4⟩|⟨h3,b,c,h4,h5⟩
    .exact .inl ⟨(hEn (of_inv h1)).2 h3,h4⟩
    exact .inr ⟨λh=>h3 ((hEn (of_inv h1)).1 h),b,c,hEc2 (of_inv h1) (λh=>h3 h.1) h4,h5⟩
   cases h
  |p l n=>
   simp only[rlB] at h
   split at h
   .rename_i k _ _ h1 h2;cases h
    obtain⟨b,c,h3,h4⟩:=hc
    exact⟨b,c,hEc2 (of_inv h1) (λ⟨_,_,_,_,_,h⟩=>by rw[h2] at h;cases h) h3,h4⟩
   cases h
  |d g x=>simp only[rlB] at h;cases h;cases g<;>exact hc
  |nil=>simp only[rlB] at h;cases h;exact hc
  |any=>simp only[rlB] at h;cases h;trivial
  |fn f=>simp only[rlB] at h;cases h;exact hc
  |_=>simp only[rlB] at h;cases h
 have hcA:∀c c' u,agC up ob (inv m) c=some c'->cvC E w c u->cvC Ec w c' u:=by
  intro c c' u h hc
  cases c with
  |d g x=>simp only[agC] at h;cases h;exact cW (λ_ _=>rfl) (λb hb=>by cases g<;>cases up<;>first|exact hb|exact ok.gf b hb) x u hc
  |nil=>simp only[agC] at h;cases h;exact⟨none,0,hc,aah _,.inl rfl⟩
  |_=>simp only[agC] at h;exact hcB _ _ _ h hc
 have hX:∀l x,go xs l=some x->dm Ec w l x:=by
  intro l x h
  obtain⟨o,x0,a1,a2,a3⟩:=L1 hx h
  exact BA a3 hcB (λb c h1 h2=>hEc2 a1 (λ⟨k1,t,sz,els,g,k2⟩=>h1 ⟨k1,t,sz,els,g,by rw[a2] at k2;cases k2;rfl⟩) h2) (hEn a1) (λg b h=>by cases g<;>exact h) (λb c h1 h2 h3=>h3) (hR.obs o x0 a2)
 have hA:=Fp (a:=a) hcA ha t1 (λx t hm=>by have:=hR.op x;rwa [Lk.mem t2 x t hm] at this)
 have hc:=hF.calls Ec w (args.map a.eval).toArray hVI ok.tabs (λk hk l c h=>by
  obtain⟨o,_,_,h3⟩:=hEc l _ h;exact ok.ntab h3 k hk rfl) hX (by simpa using hA)
 have hent:=hF.enters (args.map a.eval).toArray w
 unfold Oper.wp
 have hrun:(execOp a.eval ⟨some d,.call ⟨.value (.func f),args.toArray,tys⟩,ty,ps,af,gd⟩).run P w= .ok (.enter f (args.map a.eval).toArray) w:=by
  simp only[execOp,resolve,Act.eval,Deferred.ofValue,Sem.run_bind,Sem.run_pure,Result.andThen_ok,invoke]
  simpa using hent
 rw[hrun,Oper.upon_enter]
 refine hc.mono ?_
 rintro e w' ⟨v,E',rfl,vo,hv,hY,hNW⟩
 have hsz:=vo.past.size
 let E2:Env:={r:=λl=>match dY (inv (m++nl)) l with|some k=>E'.r k|none=>E.r l,F:=E'.F,G:=E'.G,T:=E.T,Z:=E.Z,n:=λl=>match dY (inv (m++nl)) l with|some k=>E'.n k|none=>E.n l}
 have e2r:∀{k o},dY (m++nl) k=some o->E2.r o=E'.r k:=λh=>by show(match dY (inv (m++nl)) _ with|some k=>E'.r k|none=>E.r _)=_;rw[inv_of' h]
 have e2n:∀{k o},dY (m++nl) k=some o->(E2.n o↔E'.n k):=λh=>by show(match dY (inv (m++nl)) _ with|some k=>E'.n k|none=>E.n _)↔_;rw[inv_of' h]
 have e2r0:∀{o},dY (inv (m++nl)) o=none->E2.r o=E.r o:=λh=>by show(match dY (inv (m++nl)) _ with|some k=>E'.r k|none=>E.r _)=_;rw[h]
 have e2n0:∀{o},dY (inv (m++nl)) o=none->(E2.n o↔E.n o):=λh=>by show(match dY (inv (m++nl)) _ with|some k=>E'.n k|none=>E.n _)↔_;rw[h]
 have e2c:∀l b c,E2.r l=some (b,c)->(∃k,dY (m++nl) k=some l/\E'.r k=some (b,c))\/(dY (inv (m++nl)) l=none/\E.r l=some (b,c)):=by
  intro l b c h
  cases h1:dY (inv (m++nl)) l with
  |some k=>exact .inl ⟨k,of_inv' h1,by rw[<-e2r (of_inv' h1)];exact h⟩
  |none=>exact .inr ⟨rfl,by rw[<-e2r0 h1];exact h⟩
 have oldB:∀{k b c},E'.r k=some (b,c)->w.heap.size<=b\/∃l o c',dY m l=some o/\¬nilL o/\E.r o=some (b,c')/\rsv k=true:=by
  intro k b c h
  rcases(vo.rb k b c h).2 with h|⟨⟨l,c',h⟩,h2⟩
  .exact .inl h
  obtain⟨o,h3,h4,h5⟩:=hEc l _ h;exact .inr ⟨l,o,c',h3,h4,h5,h2⟩
 have none_of:∀{o},(∀k,dY m k≠some o)->o<nx->dY (inv (m++nl)) o=none:=by
  intro o h1 h2
  cases h:dY (inv (m++nl)) o with
  |none=>rfl
  |some k=>
   rcases split (of_inv' h) with h3|h3
   .exact absurd h3 (h1 k)
   have:=(hcu _ _ h3).1;omega
 have hnot:∀{o},dY (inv (m++nl)) o=none->∀k,dY m k≠some o:=λh k h1=>by rw[inv_of' (look_m h1)] at h;cases h
 have hheap:∀k,k<w.heap.size->(∀l o c,dY m l=some o->¬nilL o->E.r o≠some (k,c))->w'.heap[k]?=w.heap[k]?:=λk hk h=>vo.past.block k hk (λ⟨l,c,h1⟩=>by
  obtain⟨o,h2,h3,h4⟩:=hEc l _ h1;exact h l o c h2 h3 h4)
 have hFh:∀b,E.F b->w'.heap[b]?=w.heap[b]?:=λb hb=>hheap b (ok.fb b hb) (λl o c h1 h2 h3=>nF h1 h2 h3 hb)
 have hHh:∀g b,E.H g b->w'.heap[b]?=w.heap[b]?:=λg b hb=>hFh b (by cases g;exact hb;exact ok.gf b hb)
 have hTh:∀l b,E.T l b->w'.heap[b]?=w.heap[b]?:=λl b hb=>hheap b (ok.sf.tb l b hb).1.1 (λ_ o c _ _ h=>(ok.sf.tb l b hb).2.2.1 o c h)
 have hZh:∀b,cx.Z b->w'.heap[b]?=w.heap[b]?:=λb hb=>hheap b (ok.sf.zc b hb).1.2.1 (λ_ o c _ _ h=>(ok.sf.zc b hb).2.2.1 o c h)
 have okE:dJ cx E2 w':=by
  refine⟨vo.fb,vo.gf,λb h=>?_,λl b c h=>?_,λl l' b c c' h h'=>?_,by rw[vo.past.os];exact ok.os,by rw[vo.past.tape];exact ok.tape,by rw[vo.past.output];exact ok.output,aba ok.size hsz,λb h hW=>?_,λl x hv h=>?_,λb h=>?_,λb h h'=>?_,⟨λl b h=>?_,ok.sf.tt,λb h=>?_,λb h=>?_,ok.sf.ze⟩⟩
  .rcases vo.g0 b h with h|h
   .exact .inl (aba ok.size h)
   exact ok.gn b h
  .rcases e2c l b c h with⟨k,h1,h2⟩|⟨h1,h2⟩
   .refine⟨(vo.rb k b c h2).1,?_⟩
    rcases oldB h2 with h3|⟨l',o',c',h3,h4,h5,h6⟩
    .exact .inl (aba ok.size h3)
    rcases split h1 with h7|h7
    .rcases(ok.rb o' b c' h5).2 with h8|⟨h8,h9⟩
     .exact .inl h8
     refine .inr ⟨h8,?_⟩
     cases hp:rsp k with
     |true=>
      have h10:=vo.pin k _ hp h2
      obtain⟨o2,h11,_,h13⟩:=hEc k _ h10
      rw[h7] at h11;cases h11
      have:=ok.inj _ _ _ _ _ h13 h5
      rw[this];exact h9
     |false=>
      rcases hu with hu|hu
      .rcases hu _ (eD h7) with h10|h10
       .simp only at h10;rw[hp] at h10;cases h10
       exact h10
      rcases hu _ (eD h3) with h10|h10
      .have h11:rsp l'=true:=h10
       have h12:=inv_of h3
       exfalso
       have hy2:(go ys l').isSome=true:=(hm2 _ (eD h3)).2.2
       have hv2:Ul ys l'=true:=((hm2 _ (eD h3)).2.1).resolve_left (by simp[h11])
       unfold Ul at hv2
       split at hv2
       .rename_i t cs hg
        obtain⟨b1,c1,arr,q1,_⟩:=hY _ _ hg
        have q2:=vo.pin l' _ h11 q1
        obtain⟨o2,q3,_,q4⟩:=hEc l' _ q2
        rw[h3] at q3;cases q3
        rw[h5] at q4;cases q4
        have:=vo.inj _ _ _ _ _ q1 h2
        subst this
        rw[h11] at hp;cases hp
       cases hv2
      simp only at h10;rw[h9] at h10;cases h10
    exfalso
    have:=(hcu _ _ h7).2.2.2
    rw[this] at h6;cases h6
   have:=ok.rb l b c h2;exact⟨aau this.1 hsz,this.2⟩
  .rcases e2c l b c h with⟨k,h1,h2⟩|⟨h1,h2⟩<;>rcases e2c l' b c' h' with⟨k',h1',h2'⟩|⟨h1',h2'⟩
   .have:=vo.inj _ _ _ _ _ h2 h2'
    subst this
    rw[h1] at h1';cases h1';rfl
   .exfalso
    rcases oldB h2 with h3|⟨l2,o2,c2,h3,h4,h5,_⟩
    .have:=(ok.rb _ _ _ h2').1;omega
    have:=ok.inj _ _ _ _ _ h5 h2'
    subst this
    exact hnot h1' _ h3
   .exfalso
    rcases oldB h2' with h3|⟨l2,o2,c2,h3,h4,h5,_⟩
    .have:=(ok.rb _ _ _ h2).1;omega
    have:=ok.inj _ _ _ _ _ h5 h2
    subst this
    exact hnot h1 _ h3
   exact ok.inj _ _ _ _ _ h2 h2'
  .rw[hheap b (aau h ok.size) (λl o c h1 h2 h3=>by
    rcases(ok.rb o b c h3).2 with h4|h4
    .omega
    exact hW h4.1)]
   exact ok.block b h hW
  .obtain⟨b,c⟩:=x
   rcases e2c l b c h with⟨k,h1,h2⟩|⟨_,h2⟩
   .rcases split h1 with h7|h7
    .have hk:rsp k=true:=((hm2 _ (eD h7)).1).resolve_left (by simp[hv])
     obtain⟨o2,q3,_,q4⟩:=hEc k _ (vo.pin k _ hk h2)
     rw[h7] at q3;cases q3
     exact ok.pin l _ hv q4
    have:=(hcu _ _ h7).2.2.1
    have h9:=J1 hv
    rw[this] at h9;cases h9
   exact ok.pin l _ hv h2
  .rcases vo.f0 b h with h|h
   .exact ok.ff b h
   exact .inr (aba ok.size h.1)
  .rcases vo.f0 b h with h|h
   .exact(ok.gc b h h').of_eq (hFh b h)
   exact h.2
  .obtain⟨k1,k2,k3,k4⟩:=ok.sf.tb l b h
   refine⟨⟨by omega,k1.2⟩,λhf=>?_,λo c ho=>?_,k4.of_eq (hTh l b h)⟩
   .rcases vo.f0 b hf with hf|hf
    .exact k2 hf
    omega
   rcases e2c o b c ho with⟨k,_,h2⟩|⟨_,h2⟩
   .rcases oldB h2 with h3|⟨l2,o2,c2,h3,h4,h5,_⟩
    .omega
    exact k3 _ _ h5
   exact k3 _ _ h2
  .obtain⟨k1,k2,k3,k4⟩:=ok.sf.zc b h
   refine⟨⟨k1.1,by omega,k1.2.2⟩,λhf=>?_,λo c ho=>?_,k4.of_eq (hZh b h)⟩
   .rcases vo.f0 b hf with hf|hf
    .exact k2 hf
    omega
   rcases e2c o b c ho with⟨k,_,h2⟩|⟨_,h2⟩
   .rcases oldB h2 with h3|⟨l2,o2,c2,h3,h4,h5,_⟩
    .omega
    exact k3 _ _ h5
   exact k3 _ _ h2
  exact(ok.sf.zs b h).trans (.of_eq (hZh b h))
 have hHm:∀g b,E.H g b->E2.H g b:=λg b h=>by cases g;exact vo.F b h;exact vo.G b h
 have hkv:∀c c' u,c.lt nx=true->kvC (inv m) c=some c'->cvC E w c u->cvC E2 w' c' u:=by
  intro c c' u hl h hc
  have hnone:∀{l},dY (inv m) l=none->l<nx->dY (inv (m++nl)) l=none:=λh1 h2=>none_of (λk h3=>by rw[inv_of h3] at h1;cases h1) h2
  cases c with
  |d g x=>simp only[kvC] at h;cases h;exact cW (hHh g) (hHm g) x u hc
  |w l n=>
   simp only[kvC] at h
   split at h
   .cases h;trivial
   rename_i h1;cases h
   obtain⟨b,c,h3,h4⟩:=hc
   exact⟨b,c,by rw[e2r0 (hnone h1 (dr hl))];exact h3,h4⟩
  |wn l n=>
   simp only[kvC] at h
   split at h
   .cases h;trivial
   rename_i h1;cases h
   have h2:=hnone h1 (dr hl)
   rcases hc with⟨h3,h4⟩|⟨h3,b,c,h4,h5⟩
   .exact .inl ⟨(e2n0 h2).2 h3,h4⟩
   exact .inr ⟨λh=>h3 ((e2n0 h2).1 h),b,c,by rw[e2r0 h2];exact h4,h5⟩
  |s l a1 a2 a3=>
   simp only[kvC] at h
   split at h
   .cases h;trivial
   rename_i h1;cases h
   obtain⟨A,c,b,k,h3,h4⟩:=hc
   exact⟨A,c,b,k,by rw[e2r0 (hnone h1 (dr hl))];exact h3,h4⟩
  |e l a1 a2 a3=>
   simp only[kvC] at h
   split at h
   .cases h;trivial
   rename_i h1;cases h
   obtain⟨b,c,h3,h4⟩:=hc
   exact⟨b,c,by rw[e2r0 (hnone h1 (dr hl))];exact h3,h4⟩
  |p l j=>
   simp only[kvC] at h
   split at h
   .rename_i k h1
    split at h
    .rename_i hp
     cases h
     obtain⟨b,c,h3,h4⟩:=hc
     have h5:=of_inv h1
     have hv2:Ul ys k=true:=((hm2 _ (eD h5)).2.1).resolve_left (by simp[hp])
     unfold Ul at hv2
     split at hv2
     .rename_i t cs hg
      obtain⟨b1,c1,arr,q1,_⟩:=hY _ _ hg
      obtain⟨o2,q3,_,q4⟩:=hEc k _ (vo.pin k _ hp q1)
      rw[h5] at q3;cases q3
      rw[h3] at q4;cases q4
      exact⟨b,c,by rw[e2r (look_m h5)];exact q1,h4⟩
     cases hv2
    cases h;trivial
   rename_i h1;cases h
   obtain⟨b,c,h3,h4⟩:=hc
   exact⟨b,c,by rw[e2r0 (hnone h1 (dr hl))];exact h3,h4⟩
  |q g y j=>
   simp only[kvC] at h;cases h
   obtain⟨b,k,h1,h2,h3⟩:=hc
   exact⟨b,k,h1,hHm g b h2,rdL_mono (hHh g) (hHm g) y b k h2 h3⟩
  |fn f=>simp only[kvC] at h;cases h;exact hc
  |nil=>simp only[kvC] at h;cases h;exact hc
  |any=>simp only[kvC] at h;cases h;trivial
  |r l x=>simp only[kvC] at h;cases h;exact cW (λb hb=>hTh l b hb) (λb hb=>hb) x u hc
  |z x=>simp only[kvC] at h;cases h;exact vy (λb hb=>.of_eq (hZh b (ok.sf.ze b hb))) (λb hb=>hb) x u hc
  |zq x j=>
   simp only[kvC] at h;cases h
   obtain⟨b,k,h1,h2,h3⟩:=hc
   exact⟨b,k,h1,h2,rsL_mono (λb hb=>.of_eq (hZh b (ok.sf.ze b hb))) (λb hb=>hb) x b k h2 h3⟩
 have hrl:∀c c' u,rlC (m++nl) c=some c'->cvC E' w' c u->cvC E2 w' c' u:=by
  intro c c' u h hc
  cases c with
  |w l n=>
   simp only[rlC] at h
   split at h
   .rename_i k h1;cases h
    obtain⟨b,c,h3,h4⟩:=hc
    exact⟨b,c,by rw[e2r h1];exact h3,h4⟩
   cases h
  |wn l n=>
   simp only[rlC] at h
   split at h
   .rename_i k h1;cases h
    rcases hc with⟨h3,h4⟩|⟨h3,b,c,h4,h5⟩
    .exact .inl ⟨(e2n h1).2 h3,h4⟩
    exact .inr ⟨λh=>h3 ((e2n h1).1 h),b,c,by rw[e2r h1];exact h4,h5⟩
   cases h
  |p l n=>
   simp only[rlC] at h
   split at h
   .rename_i k h1;cases h
    obtain⟨b,c,h3,h4⟩:=hc
    exact⟨b,c,by rw[e2r h1];exact h3,h4⟩
   cases h
  |d g x=>simp only[rlC] at h;cases h;cases g<;>exact hc
  |nil=>simp only[rlC] at h;cases h;exact hc
  |any=>simp only[rlC] at h;cases h;trivial
  |fn f=>simp only[rlC] at h;cases h;exact hc
  |_=>simp only[rlC] at h;cases h
 have hrel:∀{k o:Nat} {y y':Ob},dY (m++nl) k=some o->G5 (rlC (m++nl)) y=some y'->dm E' w' k y->dm E2 w' o y':=λh1 h2 h3=>
  BA h2 hrl (λb c _ h=>by rw[e2r h1];exact h) (e2n h1) (λg b h=>by cases g<;>exact h) (λb c _ _ h=>h) h3
 refine⟨E2,okE,λl x h=>?_,λl y hl=>?_,λk=>?_,hR.dfr,by simpa [Act.put] using hR.size,λl b h=>aau (hR.td l b h) hnn⟩
 .obtain⟨b,c⟩:=x
  rcases e2c l b c h with⟨k,h1,_⟩|⟨_,h2⟩
  .rcases split h1 with h3|h3
   .exact aau (mrs h3).2 hnn
   exact(hcu _ _ h3).2.1
  exact aau (hR.dom l _ h2) hnn
 .rcases Uh hl with h|⟨_,h⟩
  .obtain⟨k,y0,h1,h2,h3⟩:=FF linj' hw h
   exact hrel h1 h3 (hNW _ _ h2)
  rcases Uh h with h|⟨h0,h⟩
  .obtain⟨k,y0,h1,h2,h3⟩:=FF linj' hy h
   exact hrel h1 h3 (hY _ _ h2)
  .
    have hnm:∀k,dY m k≠some l:=λk h1=>by
     have h2:=(hm2 _ (eD h1)).2.2
     cases h3:go ys k with
     |none=>rw[h3] at h2;cases h2
     |some y0=>
      obtain⟨o,h4,h5⟩:=FG hy h3
      rw[look_m h1] at h4;cases h4
      exact h5 h0
    have hno:∀b c,E.r l=some (b,c)->w'.heap[b]?=w.heap[b]?:=λb c hr=>hheap b (ok.rb l b c hr).1 (λl' o' c' h1 _ h3=>by
     have:=ok.inj _ _ _ _ _ hr h3
     subst this
     exact hnm _ h1)
    have hFn:∀b c,E.r l=some (b,c)->¬E.F b->¬E2.F b:=λb c hr hn hf=>(vo.f0 b hf).elim hn (λh=>by have:=(ok.rb l b c hr).1;omega)
    rcases wr hb h with⟨t,cs,cs',g1,g2,rfl⟩|⟨x0,g1,g2,g3⟩
    .obtain⟨hln,hxl⟩:=yd hol g1
     have e1:=e2r0 (none_of hnm hln)
     obtain⟨b,c,arr,k1,k2,k3,k4⟩:=hR.obs l _ g1
     refine⟨b,c,arr,by rw[e1];exact k1,(hno b c k1).trans k2,?_,hFn b c k1 k4⟩
     have key:∀(cs cs':List C) (us:Lae),cs.all (C.lt nx)=true->qA (kvC (inv m)) cs=some cs'->CV E w cs us->CV E2 w' cs' us:=by
      intro cs
      induction cs with
      |nil=>intro cs' us _ h hc;simp[qA] at h;subst h;cases us with
       |nil=>trivial
       |cons _ _=>exact hc.elim
      |cons c cs ih=>
       intro cs' us hl h hc
       simp only[aaK,hV] at hl
       cases us with
       |nil=>exact hc.elim
       |cons u us=>
        simp only[qA] at h
        split at h
        .rename_i h1 h2;simp at h;subst h;exact⟨hkv _ _ _ hl.1 h1 hc.1,ih _ _ hl.2 h2 hc.2⟩
        cases h
     exact key _ _ _ hxl g2 k3
    cases g3
    obtain⟨hln,hxl⟩:=yd hol g1
    have e1:=e2r0 (none_of hnm hln)
    have e3:=e2n0 (none_of hnm hln)
    have hx0:=hR.obs l _ g1
    cases y with
    |var t cs=>exact absurd rfl (g2 t cs)
    |row t sz els g mm=>
     obtain⟨b,c,arr,k1,k2,k3,k4,k5,k6,k7,k8,k9⟩:=hx0
     exact⟨b,c,arr,by rw[e1];exact k1,(hno b c k1).trans k2,k3,k4,k5,k6,cX (hHh g) (hHm g) (hno b c k1) _ _ k7,λhm=>hFn b c k1 (k8 hm),λhm=>⟨hHm false b (k9 hm).1,λhg=>hHm true b ((k9 hm).2 hg)⟩⟩
    |rown t sz els g=>
     rcases hx0 with⟨k1,k2⟩|⟨k0,b,c,arr,k1,k2,k3,k4,k5,k6,k7,k8⟩
     .exact .inl ⟨e3.2 k1,k2⟩
     exact .inr ⟨λh=>k0 (e3.1 h),b,c,arr,by rw[e1];exact k1,(hno b c k1).trans k2,k3,k4,k5,k6,cX (hHh g) (hHm g) (hno b c k1) _ _ k7,hFn b c k1 k8⟩
    |abs j z=>
     rcases hx0 with⟨k1,k2⟩|⟨k0,b,c,k1,k2,k3⟩
     .exact .inl ⟨e3.2 k1,k2⟩
     exact .inr ⟨λh=>k0 (e3.1 h),b,c,by rw[e1];exact k1,z.st _ _ _ _ _ _ k2 (λk hk=>hk) (hno b c k1) (λk hk=>hTh j k hk),hFn b c k1 k3⟩
 rw[iJ (by rw[hR.size];exact dr hN)]
 by_cases hdk:d=k
 .subst hdk;rw[d4,if_pos rfl];exact Bp hrl ho hv
 rw[di _ _ hdk,if_neg hdk]
 rw[<-Pw hsl] at hs
 refine Bn (λc c' u h hc=>?_) hs (hR.sl k)
 unfold ltF at h
 cases hl:c.lt nx with
 |true=>rw[hl] at h;exact hkv c c' u hl h hc
 |false=>rw[hl] at h;cases h;trivial
theorem cwv {d:Tmp} {ob ob1 ob2:Laa} {xs ys' nw':Laa} (m nl:Lac) (n:Nat)
 (hF:FnV P f xs ts' ys out nw) (ht:Bt sl args=some ts:=by exact rfl) (ha:xg (agC false ob (inv m)) ts=some ts':=by exact rfl) (hx:Bw (inv m) ob m=some xs:=by exact rfl) (hm:mOK m nl nx n ys=true:=by exact rfl) (hs:Cn (kvC (inv m)) sl=some sl':=by exact rfl) (hb:Ai (kvC (inv m)) (λ_ x=>some x) ob=some ob':=by exact rfl)
 (hy:xi (m++nl) ys=some ys':=by exact rfl) (hw:xi (m++nl) nw=some nw':=by exact rfl) (ho:Bo (rlC (m++nl)) out=some out':=by exact rfl) (hsl:Hn nx sl=true:=by exact rfl) (hol:C4 nx ob=true:=by exact rfl) (hN:nlt d N=true:=by exact rfl) (h1:apO ys' ob'=some ob1:=by exact rfl) (h2:apO nw' ob1=some ob2:=by exact rfl):
 AWO P N ⟨some d,.call ⟨.value (.func f),args.toArray,tys⟩,ty,ps,af,gd⟩ ⟨sl,ob,nx⟩ ⟨(d,out')::sl',ob2,n⟩:=by
 rw[xA h2,xA h1]
 exact PM hF ht ha hx hm hs hb hy hw ho hsl hol hN
theorem cwu {d:Tmp} {ob ob1 ob2:Laa} {xs ys' nw':Laa} (m nl:Lac) (n:Nat)
 (hF:FnV P f xs ts' ys out nw) (ht:Bt sl args=some ts:=by exact rfl) (ha:xg (agC true ob (inv m)) ts=some ts':=by exact rfl) (hx:Bw (inv m) ob m=some xs:=by exact rfl) (hm:mOK m nl nx n ys=true:=by exact rfl) (hs:Cn (kvC (inv m)) sl=some sl':=by exact rfl) (hb:Ai (kvC (inv m)) (λ_ x=>some x) ob=some ob':=by exact rfl)
 (hy:xi (m++nl) ys=some ys':=by exact rfl) (hw:xi (m++nl) nw=some nw':=by exact rfl) (ho:Bo (rlC (m++nl)) out=some out':=by exact rfl) (hsl:Hn nx sl=true:=by exact rfl) (hol:C4 nx ob=true:=by exact rfl) (hN:nlt d N=true:=by exact rfl) (h1:apO ys' ob'=some ob1:=by exact rfl) (h2:apO nw' ob1=some ob2:=by exact rfl):
 AWO P N ⟨some d,.call ⟨.value (.func f),args.toArray,tys⟩,ty,ps,af,gd⟩ ⟨sl,ob,nx⟩ ⟨(d,out')::sl',ob2,n⟩:=by
 rw[xA h2,xA h1]
 exact PM hF ht ha hx hm hs hb hy hw ho hsl hol hN
end Go.AM
