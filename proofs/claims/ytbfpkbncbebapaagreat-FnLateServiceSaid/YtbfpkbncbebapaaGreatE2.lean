/- A part. -/
import Derived.Test.YtbfpkbncbebapaaGreatE1
import Derived.Laws.StructEq
import Derived.Laws.BytesString
set_option linter.unusedVariables false
set_option linter.unusedSimpArgs false
open Nat renaming eq_of_beq_eq_true->YT,beq->YN,lt_of_lt_of_le->Zg,zero_add->Y7,le_refl->YW,lt_or_ge->Zb,le_of_ble_eq_true->Zx,min_eq_left->Zj,le_trans->ZY,zero_le->Y0,lt_trichotomy->aad,ble->Zi,add_zero->Zy
open List renaming getElem?_eq_getElem->YO,getElem?_eq_some_iff->YP,mem_of_getElem?->YS,all_eq_true->YX,mem_cons->YU,pairwise_iff_getElem->Zq,mem_append->YR,length_cons->YY,getElem?_append_left->YZ,range->YQ,filter_cons_of_pos->Zv,filter_cons_of_neg->Zw,length_map->Y3,take_succ_cons->Zs,getElem?_append_right->Y1,cons_append->Zm,getElem?_take->Za,map_cons->Ze,all_cons->Zt,getD_eq_getElem?_getD->Z4,mem_of_mem_take->Y9,mem_map->ZQ,map_append->ZU,eq_nil_of_length_eq_zero->Zl,drop_drop->ZX,getElem?_of_mem->Y4,length_append->Y8,length_eq_zero_iff->aag,nodup_append->aac,findIdx?_eq_some_iff_getElem->ZG,any_eq_true->Zh,map_nil->ZV,mem_cons_of_mem->aah,drop_succ_cons->aai,flatten_append->Z2,exists_mem_of_ne_nil->aaj,findIdx?_eq_none_iff->ZI,length_take->Z3,map_toArray->aaa,nodup_cons->ZH,drop_of_length_le->aae,filter_eq_nil_iff->Z6,map_take->Z7,getElem?_drop->Zu,mem_singleton->ZS,mapM_toArray->aaf,filter_congr->aal,any_eq_false->Z8,nodup_range->aam,mem_filter->ZZ,nil_append->ZR,take_zero->aan,drop_zero->ZF,mem_range->ZW,map_drop->aab,any_cons->aao
open Bool renaming and_eq_true->v0,false_ne_true->ZT,or_eq_true->Y6,eq_false_iff->Z1,not_eq_true'->Zf,or_eq_false_iff->Y2,false_or->Zk,not_true->Z0,false_eq_true->aak
open Array renaming getElem?_eq_none->Zd,getElem?_eq_getElem->Zc,replicate->Y5,getD_eq_getD_getElem?->Zn,getElem?_append_left->Z9,setIfInBounds_eq_of_size_le->aap,ext'->Z5,toArray_toList->ZE
namespace Go.AM
open Go.RowKit
def toV:D->Value
 | .i k n=>.int k n
 | .b b=>.bool b
 | .str s=>.string s
 | .l _=>.slice none 0 0
 | .k _ _ _=>.slice none 0 0
def Vl:D->D->Bool
 | .i _ a,.i _ b=>eqB a b
 | .b a,.b b=>a==b
 | .str a,.str b=>strB a b
 |_,_=>false
def tU:List D->List D->Bool
 |x::xs,y::ys=>Vl x y&&tU xs ys
 |_,_=>true
def shB:List Sh->List D->Bool
 |[],[]=>true
 | .i k::ss,.i k' _::xs=>decide (k=k')&&shB ss xs
 | .b::ss,.b _::xs=>shB ss xs
 | .str::ss,.str _::xs=>shB ss xs
 |_,_=>false
theorem qB:∀{ss:List Sh} {xs:List D},shB ss xs=true->xs.length=ss.length
 |[],[],_=>rfl
 | .i k::ss,.i k' _::xs,h=>by simp[shB] at h;simp[qB h.2]
 | .b::ss,.b _::xs,h=>by simp[shB] at h;simp[qB h]
 | .str::ss,.str _::xs,h=>by simp[shB] at h;simp[qB h]
 |[],_::_,h=>by simp[shB] at h
 | .i _::_,[],h=>by simp[shB] at h
 | .i _::_,.b _::_,h=>by simp[shB] at h
 | .i _::_,.str _::_,h=>by simp[shB] at h
 | .i _::_,.l _::_,h=>by simp[shB] at h
 | .i _::_,.k _ _ _::_,h=>by simp[shB] at h
 | .b::_,[],h=>by simp[shB] at h
 | .b::_,.i _ _::_,h=>by simp[shB] at h
 | .b::_,.str _::_,h=>by simp[shB] at h
 | .b::_,.l _::_,h=>by simp[shB] at h
 | .b::_,.k _ _ _::_,h=>by simp[shB] at h
 | .str::_,[],h=>by simp[shB] at h
 | .str::_,.i _ _::_,h=>by simp[shB] at h
 | .str::_,.b _::_,h=>by simp[shB] at h
 | .str::_,.l _::_,h=>by simp[shB] at h
 | .str::_,.k _ _ _::_,h=>by simp[shB] at h
 | .l _::_,[],h=>by simp[shB] at h
 | .l _::_,_::_,h=>by simp[shB] at h
theorem vq:∀{s1 s2:List Sh} {xs:List D},shB (s1++s2) xs=true->shB s1 (xs.take s1.length)=true/\shB s2 (xs.drop s1.length)=true
 |[],s2,xs,h=>by simpa [shB] using h
 | .i k::s1,s2,.i k' n::xs,h=>by
  simp only[Zm,shB,v0] at h
  obtain⟨h1,h2⟩:=vq h.2
  exact⟨by simp only[YY,Zs,shB,v0];exact⟨h.1,h1⟩,by simpa using h2⟩
 | .b::s1,s2,.b n::xs,h=>by
  simp only[Zm,shB] at h
  obtain⟨h1,h2⟩:=vq h
  exact⟨by simp only[YY,Zs,shB];exact h1,by simpa using h2⟩
 | .str::s1,s2,.str n::xs,h=>by
  simp only[Zm,shB] at h
  obtain⟨h1,h2⟩:=vq h
  exact⟨by simp only[YY,Zs,shB];exact h1,by simpa using h2⟩
 | .i _::_,_,[],h=>by simp[shB] at h
 | .i _::_,_,.b _::_,h=>by simp[shB] at h
 | .i _::_,_,.str _::_,h=>by simp[shB] at h
 | .i _::_,_,.l _::_,h=>by simp[shB] at h
 | .i _::_,_,.k _ _ _::_,h=>by simp[shB] at h
 | .b::_,_,[],h=>by simp[shB] at h
 | .b::_,_,.i _ _::_,h=>by simp[shB] at h
 | .b::_,_,.str _::_,h=>by simp[shB] at h
 | .b::_,_,.l _::_,h=>by simp[shB] at h
 | .b::_,_,.k _ _ _::_,h=>by simp[shB] at h
 | .str::_,_,[],h=>by simp[shB] at h
 | .str::_,_,.i _ _::_,h=>by simp[shB] at h
 | .str::_,_,.b _::_,h=>by simp[shB] at h
 | .str::_,_,.l _::_,h=>by simp[shB] at h
 | .str::_,_,.k _ _ _::_,h=>by simp[shB] at h
 | .l _::_,_,[],h=>by simp[shB] at h
 | .l _::_,_,_::_,h=>by simp[shB] at h
theorem DF:∀(n:Nat) (xs ys:List D),xs.length=ys.length->tU xs ys=(tU (xs.take n) (ys.take n)&&tU (xs.drop n) (ys.drop n))
 |0,xs,ys,_=>by simp[tU]
 |n+1,[],[],_=>by simp[tU]
 |n+1,x::xs,y::ys,h=>by
  simp only[Zs,aai,tU]
  rw[DF n xs ys (by simpa using h),Bool.and_assoc]
 |n+1,[],_::_,h=>by simp at h
 |n+1,_::_,[],h=>by simp at h
def qa (xs:List D):Array Value:=(xs.map toV).toArray
def EqS (P:Program) (t:TypeId) (s:Sh):Prop:=∀(d:Nat) (w:World) (x y:D),shB [s] [x]=true->shB [s] [y]=true->(Op.equalIn (d+1) t (toV x) (toV y)).run P w= .ok (Vl x y) w
def EqA (P:Program) (k:Nat) (t:TypeId) (ss:List Sh):Prop:=∀(d:Nat) (w:World) (xs ys:List D),k<=d->shB ss xs=true->shB ss ys=true->(Op.equalIn d t (.agg (qa xs)) (.agg (qa ys))).run P w= .ok (tU xs ys) w
def EqF (P:Program) (k:Nat) (o:Nat) (fs:List Field) (ss:List Sh):Prop:=∀(d:Nat) (w:World) (X Y:List D),k<=d->shB ss (X.drop o)=true->shB ss (Y.drop o)=true->(Op.eqFields d (qa X) (qa Y) fs).run P w= .ok (tU (X.drop o) (Y.drop o)) w
theorem er {P:Program} {t:TypeId} {k:IntKind} (h:P.underlying t=some (.int k)):EqS P t (.i k):=by
 intro d w x y hx hy
 cases x<;>simp[shB] at hx
 cases y<;>simp[shB] at hy
 subst hx;subst hy
 rw[toV,toV,run_equalIn_int w d t _ k _ _ h]
 simp[Vl,eqB,Nu]
theorem oK {P:Program} {k o:Nat}:EqF P k o [] []:=by
 intro d w X Y hd hx hy
 have h1:=qB hx
 have h2:=qB hy
 rw[aag.1 h1,aag.1 h2]
 simp[Op.eqFields,tU]
theorem UD {X:List D} {o:Nat} {x:D} {r:List D} (h:X.drop o=x::r):(qa X)[o]?=some (toV x):=by
 have:X[o]?=some x:=by
  have:=Zu (xs:=X) (i:=o) (j:=0)
  rw[h] at this
  simpa using this.symm
 simp[qa,this]
theorem ic {P:Program} {k o:Nat} {f:Field} {fs:List Field} {s:Sh} {ss:List Sh} (ho:f.offset=o) (hn:f.name≠ "_") (hs:TySc P f.type) (he:EqS P f.type s) (h:EqF P (k+1) (o+1) fs ss):EqF P (k+1) o (f::fs) (s::ss):=by
 intro d w X Y hd hx hy
 obtain⟨d,rfl⟩:∃d',d=d'+1:=⟨d-1,by omega⟩
 have l1:=qB hx
 have l2:=qB hy
 cases hX:X.drop o with
 |nil=>rw[hX] at l1;simp at l1
 |cons x X'=>
  cases hY:Y.drop o with
  |nil=>rw[hY] at l2;simp at l2
  |cons y Y'=>
   rw[hX] at hx;rw[hY] at hy
   have a1:=vq (s1:=[s]) (s2:=ss) hx
   have a2:=vq (s1:=[s]) (s2:=ss) hy
   simp only[YY,List.length_nil,Y7,Zs,aan,aai,ZF] at a1 a2
   have e1:X.drop (o+1)=X':=by rw[<-ZX,hX];rfl
   have e2:Y.drop (o+1)=Y':=by rw[<-ZX,hY];rfl
   have ih:=h (d+1) w X Y hd (by rw[e1];exact a1.2) (by rw[e2];exact a2.2)
   simp only[Op.eqFields,hn,ne_eq,not_false_eq_true,if_true,Sem.run_bind,part,hs.h,Result.andThen_ok,ho,UD hX,UD hY,Sem.run_pure,aak,if_false,he d w x y a1.1 a2.1]
   rw[tU,<-e1,<-e2]
   cases hq:Vl x y
   .simp
   simpa using ih
theorem Wu {X:List D} {o n:Nat}:(qa X).extract o (o+n)=qa ((X.drop o).take n):=by
 apply Z5
 simp[qa,aab,Z7,List.extract_eq_take_drop]
theorem R3 {P:Program} {k k' o n:Nat} {f:Field} {fs:List Field} {s1 ss:List Sh} (ho:f.offset=o) (hn:f.name≠ "_") (hs:TyAg P f.type n) (hl:s1.length=n) (hk:k'<=k) (he:EqA P k' f.type s1) (h:EqF P k (o+n) fs ss):EqF P k o (f::fs) (s1++ss):=by
 intro d w X Y hd hx hy
 have l1:=qB hx
 have l2:=qB hy
 have a1:=vq hx
 have a2:=vq hy
 rw[hl] at a1 a2
 have ih:=h d w X Y hd (by rw[<-ZX];exact a1.2) (by rw[<-ZX];exact a2.2)
 obtain⟨i,hi,hin⟩:=hs.n
 simp only[Op.eqFields,hn,ne_eq,not_false_eq_true,if_true,Sem.run_bind,part,hs.h,Result.andThen_ok,ho,eV hi,hin,Wu,Sem.run_pure,he d w _ _ oaa a1.1 a2.1]
 rw[DF n (X.drop o) (Y.drop o) oaa,ZX,ZX]
 cases hq:tU ((X.drop o).take n) ((Y.drop o).take n)
 .simp
 simpa using ih
theorem iU {P:Program} {k:Nat} {t:TypeId} {ss:List Sh} {fs:Array Field} (hu:P.underlying t=some (.struct fs)) (hp:P.stoodInHeld t=false) (h:EqF P k 0 fs.toList ss):EqA P (k+1) t ss:=by
 intro d w xs ys hd hx hy
 obtain⟨d,rfl⟩:∃d',d=d'+1:=⟨d-1,by omega⟩
 have hf:P.fieldsOf t=fs:=by simp[Program.fieldsOf,hu]
 rw[run_equalIn_struct w d t _ _ (by rw[hf];exact hu) hp,hf]
 have:=h d w xs ys oaa (by simpa using hx) (by simpa using hy)
 simpa using this
class TyEq (P:Program) (t:TypeId) (ss:outParam (List Sh)):Prop where
 h:∃k,k<=10000/\EqA P k t ss
 g:P.eqGuardType P.depth t=false
def OX:C->Option D
 | .d _ (.i k n)=>some (.i k n)
 | .d _ (.b b)=>some (.b b)
 | .d _ (.str s)=>some (.str s)
 |_=>none
def pZ:List C->Option (List D)
 |[]=>some []
 |c::cs=>match OX c,pZ cs with
  |some x,some xs=>some (x::xs)
  |_,_=>none
theorem T5 {E:Env} {w:World} {c:C} {x:D} {u:Value} (h:OX c=some x) (hc:cvC E w c u):u=toV x:=by
 cases c with
 |d g y=>cases y<;>simp[OX] at h<;>subst h<;>simpa [cvC,rdD,toV] using hc
 |_=>simp[OX] at h
theorem uo {E:Env} {w:World}:∀{cs:List C} {xs:List D} {us:List Value},pZ cs=some xs->CV E w cs us->us=xs.map toV
 |[],xs,[],h,_=>by simp[pZ] at h;subst h;rfl
 |[],_,_::_,_,hc=>hc.elim
 |c::cs,xs,[],h,hc=>hc.elim
 |c::cs,xs,u::us,h,hc=>by
  simp only[pZ] at h
  split at h
  .rename_i x xs' h1 h2
   simp at h;subst h
   rw[Ze,T5 h1 hc.1,uo h2 hc.2]
  cases h
section
variable {P:Program} {N:Nat} {d:Tmp} {ty:TypeId} {ps:String} {af:Array Edge} {gd:Option (Nat×Bool)} {x y z:Operand} {sl:List (Nat×T)} {ob:List (Nat×Ob)} {nx:Nat}
theorem OV {t:TypeId} {ss:List Sh} [h:TyEq P t ss] {as bs:List D} (h1:shB ss as=true) (h2:shB ss bs=true) (w:World) (o:BinOp) (ho:o= .eql\/o= .neq) (x y:Operand):
 ((do eqGuard o t x y (.agg (qa as)) (.agg (qa bs));binOp o t (.agg (qa as)) (.agg (qa bs))):Sem Value).run P w= .ok (.bool (if o= .eql then tU as bs else !tU as bs)) w:=by
 obtain⟨k,hk,he⟩:=h.h
 have:=he 10000 w as bs hk h1 h2
 rcases ho with rfl|rfl
 .simp[Sem.run_bind,run_eqGuard_agg w _ t x y _ _ h.g,run_eql_struct,this]
 simp[Sem.run_bind,run_eqGuard_agg w _ t x y _ _ h.g,run_neq_struct,this]
theorem n_seq {t t':TypeId} {ss:List Sh} [h:TyEq P t ss] {cs ds:List C} {as bs:List D} (ha:pZ cs=some as) (hb:pZ ds=some bs) (h1:shB ss as=true) (h2:shB ss bs=true):
 AWN P ⟨some d,.binOp .eql t x y t',ty,ps,af,gd⟩ [(x,.v (.agg cs)),(y,.v (.agg ds))] [] (tB (tU as bs)) []:=
 ci λE ac w hn _=>by
  obtain⟨a1,hu1,hc1⟩:=hn x _ (.head _)
  obtain⟨a2,hu2,hc2⟩:=hn y _ (.tail _ (.head _))
  have e1:a1=qa as:=by apply Z5;simpa [qa] using uo ha hc1
  have e2:a2=qa bs:=by apply Z5;simpa [qa] using uo hb hc2
  subst e1;subst e2
  refine⟨_,?_,rfl⟩
  have:=OV (P:=P) (t:=t) h1 h2 w .eql (.inl rfl) x y
  simp only[Sem.run_bind,if_true] at this
  simp only[execOp,hu1,hu2,Sem.run_bind]
  generalize (eqGuard BinOp.eql t x y (Value.agg (qa as)) (Value.agg (qa bs))).run P w=q at*
  cases q with
  |ok a w'=>simp only[Result.andThen_ok] at this ⊢;rw[this];rfl
  |halt a w'=>simp[Result.andThen] at this
theorem n_sne {t t':TypeId} {ss:List Sh} [h:TyEq P t ss] {cs ds:List C} {as bs:List D} (ha:pZ cs=some as) (hb:pZ ds=some bs) (h1:shB ss as=true) (h2:shB ss bs=true):
 AWN P ⟨some d,.binOp .neq t x y t',ty,ps,af,gd⟩ [(x,.v (.agg cs)),(y,.v (.agg ds))] [] (tB (!tU as bs)) []:=
 ci λE ac w hn _=>by
  obtain⟨a1,hu1,hc1⟩:=hn x _ (.head _)
  obtain⟨a2,hu2,hc2⟩:=hn y _ (.tail _ (.head _))
  have e1:a1=qa as:=by apply Z5;simpa [qa] using uo ha hc1
  have e2:a2=qa bs:=by apply Z5;simpa [qa] using uo hb hc2
  subst e1;subst e2
  refine⟨_,?_,rfl⟩
  have:=OV (P:=P) (t:=t) h1 h2 w .neq (.inr rfl) x y
  simp only[Sem.run_bind,reduceCtorEq,if_false] at this
  simp only[execOp,hu1,hu2,Sem.run_bind]
  generalize (eqGuard BinOp.neq t x y (Value.agg (qa as)) (Value.agg (qa bs))).run P w=q at*
  cases q with
  |ok a w'=>simp only[Result.andThen_ok] at this ⊢;rw[this];rfl
  |halt a w'=>simp[Result.andThen] at this
theorem qe {t t':TypeId} {ss:List Sh} {cs ds:List C} {as bs:List D} [TyEq P t ss] (hx:opT sl x= .v (.agg cs)) (hy:opT sl y= .v (.agg ds)) (hN:nlt d N=true) (ha:pZ cs=some as) (hb:pZ ds=some bs) (h1:shB ss as=true) (h2:shB ss bs=true):
 NS0 P N ⟨some d,.binOp .eql t x y t',ty,ps,af,gd⟩ sl ob nx d (tB (tU as bs)) ⟨d,[(x,.v (.agg cs)),(y,.v (.agg ds))],[],tB (tU as bs),[]⟩:=dx (st:=⟨sl,ob,nx⟩) (n_seq ha hb h1 h2) rfl hN ⟨hx,hy,trivial⟩ trivial rfl
theorem qn {t t':TypeId} {ss:List Sh} {cs ds:List C} {as bs:List D} [TyEq P t ss] (hx:opT sl x= .v (.agg cs)) (hy:opT sl y= .v (.agg ds)) (hN:nlt d N=true) (ha:pZ cs=some as) (hb:pZ ds=some bs) (h1:shB ss as=true) (h2:shB ss bs=true):
 NS0 P N ⟨some d,.binOp .neq t x y t',ty,ps,af,gd⟩ sl ob nx d (tB (!tU as bs)) ⟨d,[(x,.v (.agg cs)),(y,.v (.agg ds))],[],tB (!tU as bs),[]⟩:=dx (st:=⟨sl,ob,nx⟩) (n_sne ha hb h1 h2) rfl hN ⟨hx,hy,trivial⟩ trivial rfl
end
open Go.RowKit
def cpL {α:Type} (els ys:List α):List α:=ys.take els.length++els.drop ys.length
theorem Nx {α β:Type} (f:α->β) (els ys:List α):cpL (els.map f) (ys.map f)=(cpL els ys).map f:=by simp[cpL,Z7,aab]
@[simp] theorem cpL_len {α:Type} (els ys:List α):(cpL els ys).length=els.length:=by simp[cpL];omega
section
variable {P:Program} {N:Nat} {d:Tmp} {ty:TypeId} {ps:String} {af:Array Edge} {gd:Option (Nat×Bool)} {x y z:Operand} {st:St}
theorem yk {b k:Nat} {w:World} {us:List Value} {n:Nat} (hn:us.length=n) (h:∀(j:Nat) (u:Value),us[j]?=some u->w.cell? ⟨b,k+j,none⟩=some u):
 (loadCells ⟨b,k,none⟩ n).run P w= .ok us.toArray w:=by
 subst hn
 have:=kD (P:=P) (b:=b) (k:=k) (w:=w) us 0 #[] (λj u hj=>by simpa using h j u hj)
 simpa [loadCells] using this
theorem Tn {t:TypeId} {e sz by_ o n:Nat} {els ys:List (List D)} {g gy:Bool} {c:C} [ht:TySl P t e sz by_] (hd:d<N)
 (hx:opT st.sl x= .v (.c (.w o n))) (hy:opT st.sl y= .v (.c c)) (ho:go st.ob o=some (.row e sz els g true)) (hs:Src st.ob c ys gy)
 (hn:els.length=n) (hsz:∀e∈ys,e.length=sz):
 AWO P N ⟨some d,.call ⟨.builtin .copy,#[x,y],#[t,t]⟩,ty,ps,af,gd⟩ st ⟨(d,.any)::st.sl,(o,.row e sz (cpL els ys) (g&&gy) true)::st.ob,st.nx⟩:=by
 intro cx E a w hR
 have h1:=hR.op x;rw[hx] at h1
 have h2:=hR.op y;rw[hy] at h2
 obtain⟨b,cc,hr,hu⟩:=h1
 obtain⟨b',c',arr,hr',hh,ha,hlc,hmx,hes,hrd,hFm,_⟩:=hR.obs o _ ho
 rw[hr] at hr';cases hr'
 have hF:=hFm rfl
 obtain⟨A,k,hv,hyk,hA⟩:=MZ hR hs h2
 obtain⟨ii,zz,i1,i2,i3,i4,i5⟩:=ht.i
 obtain⟨m,hm⟩:∃m,m=Nat.min ys.length n:=⟨_,rfl⟩
 have hm1:m<=ys.length:=by rw[hm];exact Nat.min_le_left _ _
 have hm2:m<=n:=by rw[hm];exact Nat.min_le_right _ _
 have hcp:cpL els ys=ys.take m++els.drop m:=by
  unfold cpL
  rw[hn]
  rcases Nat.le_total ys.length n with h|h
  .have e:m=ys.length:=by rw[hm];exact Zj h
   rw[e,List.take_of_length_le h,List.take_length]
  have e:m=n:=by rw[hm];exact Nat.min_eq_right h
  rw[e,aae oaa,aae oaa]
 have hsrc:∃news:List Value,news.length=m*sz/\(∀u∈news,u.oneCell'=true)/\(∀(j:Nat) (xd:D),(ys.take m).flatten[j]?=some xd->∃u,news[j]?=some u/\rdD w (E.H gy) xd u)/\
  (Builtin.firstCells sz m (.slice A ys.length k)).run P w= .ok news.toArray w:=by
  rcases hA with h0|⟨b2,off,rfl,hrd2⟩
  .subst h0
   have hm0:m=0:=by simpa using hm1
   refine⟨[],by simp[hm0],by simp,by simp,?_⟩
   cases A with
   |none=>simp[Builtin.firstCells]
   |some ad=>simp[Builtin.firstCells,hm0,loadCells,loadCellsFrom]
  obtain⟨us,q1,q2,q3,q4⟩:=xa (ga.1 (qL m hrd2))
  have ql:us.length=m*sz:=by
   rw[q1,iF (λe he=>hsz e (Y9 he)),Z3,Zj hm1]
  refine⟨us,ql,q3,q4,?_⟩
  simp only[Builtin.firstCells]
  exact yk ql (λj u hj=>by have:=q2 j u hj;rwa [vY] at this)
 obtain⟨news,n1,n2,n3,n4⟩:=hsrc
 have hmul:m*sz<=arr.size:=by rw[ha];exact Nat.mul_le_mul_right _ oaa
 have hst:=run_storeCells_at (P:=P) b 0 e news 0 arr w hh (by simp;omega) n2
 have hrun:(Builtin.copy_ #[t,t] ty #[.slice (some ⟨b,0,none⟩) n cc,.slice A ys.length k]).run P w= .ok (goInt m) (w.setRow b (news++arr.toList.drop (m*sz)).toArray):=by
  simp only[Y7,n1] at hst
  simp only[Builtin.copy_]
  simp[underlying,ht.u,Builtin.lenOf,eV i1,i2]
  rw[<-hm,n4]
  simp[hst]
 unfold Oper.wp
 simp only[execOp,resolve,invoke,builtin,Sem.run_bind,Sem.run_pure,Result.andThen_ok,aaa,Ze,ZV,hu,hv,hrun,Oper.upon_value]
 have hk:=jH (cs:=(news++arr.toList.drop (m*sz)).toArray) (w:=w) hR.ok hr hF
 have hall:∀e'∈cpL els ys,e'.length=sz:=λe' he'=>by
  rw[hcp] at he'
  rcases YR.1 he' with h|h
  .exact hsz e' (Y9 h)
  exact hes e' (List.mem_of_mem_drop h)
 have hrel:=ve (ob':=.row e sz (cpL els ys) (g&&gy) true) (cs:=(news++arr.toList.drop (m*sz)).toArray) hR hr hF ⟨b,cc,_,hr,iR _ hh,by rw[<-ha];simp[n1];omega,by rw[cpL_len];omega,hmx,hall,by
  rw[ga]
  refine oE λj xd hj=>?_
  rw[Y7,eZ (iR _ hh),List.getElem?_toArray]
  rw[hcp,Z2] at hj
  have hfl:(ys.take m).flatten.length=m*sz:=by rw[iF (λe he=>hsz e (Y9 he)),Z3,Zj hm1]
  by_cases hjn:j<m*sz
  .rw[YZ oaa] at hj
   obtain⟨u,u1,u2⟩:=n3 _ _ hj
   exact⟨u,by rw[YZ oaa];exact u1,cF (hk.heap _) (hk.H _) _ _ (qj hR.ok u2 (by simp))⟩
  rw[Y1 oaa,hfl] at hj
  have hjd:els.flatten[j]?=some xd:=by
   have e1:els.flatten=(els.take m).flatten++(els.drop m).flatten:=by rw[<-Z2,List.take_append_drop]
   have e2:(els.take m).flatten.length=m*sz:=by rw[iF (λe he=>hes e (Y9 he)),Z3,Zj oaa]
   rw[e1,Y1 oaa,e2];exact hj
  obtain⟨u,u1,u2⟩:=nR (ga.1 hrd) hjd
  rw[Y7,eZ hh] at u1
  refine⟨u,?_,cF (hk.heap _) (hk.H _) _ _ (qj hR.ok u2 (by simp;intro a _;exact a))⟩
  rw[Y1 oaa,n1,Zu,show m*sz+(j-m*sz)=j from by omega]
  simpa using u1,λ_=>hF,λh=>by cases h⟩
 exact⟨E,hrel.putAny hd _⟩
theorem cpT {α:Type} {enc:α->List D} {sl:List (Nat×T)} {ob:List (Nat×Ob)} {nx:Nat} {t:TypeId} {e sz by_ o n:Nat} {ys zs:List α} {zd:List (List D)} {g gy gg:Bool} {c:C} [TySl P t e sz by_] (hzd:zs.map enc=zd) (henc:∀a,(enc a).length=sz) (hn:ys.length=n) (hs:Src ob c zd gy) (hd:nlt d N=true)
 (hx:opT sl x= .v (.c (.w o n))) (hy:opT sl y= .v (.c c)) (ho:go ob o=some (.row e sz (ys.map enc) g true)) (hg:(g&&gy)=gg):
 AWO P N ⟨some d,.call ⟨.builtin .copy,#[x,y],#[t,t]⟩,ty,ps,af,gd⟩ ⟨sl,ob,nx⟩ ⟨(d,.any)::sl,(o,.row e sz ((cpL ys zs).map enc) gg true)::ob,nx⟩:=by
 subst hzd;subst hg
 have:=Tn (P:=P) (N:=N) (st:=⟨sl,ob,nx⟩) (d:=d) (ty:=ty) (ps:=ps) (af:=af) (gd:=gd) (t:=t) (e:=e) (sz:=sz) (by_:=by_) (cX hd) hx hy ho hs (by simpa using hn) (Kc henc zs)
 rwa [Nx] at this
def wl:List D->Bool
 |[]=>true
 | .l _::_=>false
 |_::xs=>wl xs
theorem zt {w:World} {F F':Nat->Prop}:∀{e:List D} {b k:Nat},wl e=true->rdL w F e b k->rdL w F' e b k
 |[],_,_,_,_=>by simp[rdL]
 | .i k' n::xs,b,k,h,hr=>by
  rw[rdL] at hr ⊢
  exact⟨by obtain⟨u,h1,h2⟩:=hr.1;exact⟨u,h1,by simpa [rdD] using h2⟩,zt (by simpa [wl] using h) hr.2⟩
 | .b n::xs,b,k,h,hr=>by
  rw[rdL] at hr ⊢
  exact⟨by obtain⟨u,h1,h2⟩:=hr.1;exact⟨u,h1,by simpa [rdD] using h2⟩,zt (by simpa [wl] using h) hr.2⟩
 | .str n::xs,b,k,h,hr=>by
  rw[rdL] at hr ⊢
  exact⟨by obtain⟨u,h1,h2⟩:=hr.1;exact⟨u,h1,by simpa [rdD] using h2⟩,zt (by simpa [wl] using h) hr.2⟩
 | .k _ _ _::xs,b,k,h,hr=>by
  rw[rdL] at hr ⊢
  exact⟨by obtain⟨u,h1,h2⟩:=hr.1;exact⟨u,h1,by simpa [rdD] using h2⟩,zt (by simpa [wl] using h) hr.2⟩
 | .l _::_,_,_,h,_=>by simp[wl] at h
theorem A1 {w:World} {F F':Nat->Prop}:∀{es:List (List D)} {b k:Nat},(∀e∈es,wl e=true)->rdLL w F es b k->rdLL w F' es b k
 |[],_,_,_,_=>by simp[rdLL]
 |e::es,b,k,h,hr=>by
  rw[rdLL] at hr ⊢
  exact⟨zt (h e (by simp)) hr.1,A1 (λx hx=>h x (by simp[hx])) hr.2⟩
theorem ki {α:Type} {enc:α->List D} {sl:List (Nat×T)} {ob:List (Nat×Ob)} {nx o t sz:Nat} {ys:List α} {g:Bool} (ho:go ob o=some (.row t sz (ys.map enc) g true):=by exact rfl) (hf:∀a,wl (enc a)=true:=by exact λ_=>rfl):
 dO N ⟨sl,ob,nx⟩ ⟨sl,(o,.row t sz (ys.map enc) true true)::ob,nx⟩:=by
 intro cx E a w hR
 refine⟨E,hR.ok,hR.dom,λl x hl=>?_,hR.sl,hR.dfr,hR.size,hR.td⟩
 by_cases hlo:o=l
 .subst hlo
  rw[cz] at hl;cases hl
  obtain⟨b,c,arr,h1,h2,h3,h4,h5,h6,h7,h8,h9⟩:=hR.obs _ _ ho
  exact⟨b,c,arr,h1,h2,h3,h4,h5,h6,A1 (λe he=>by obtain⟨a,_,rfl⟩:=ZQ.1 he;exact hf a) h7,h8,λh=>by cases h⟩
 rw[bH _ _ hlo] at hl;exact hR.obs l x hl
end
open Go.RowKit
def yw (k:IntKind) (x y:Int):Int:=k.wrap (BitVec.ofInt k.bits x&&& BitVec.ofInt k.bits y).toNat
def bOr (k:IntKind) (x y:Int):Int:=k.wrap (BitVec.ofInt k.bits x|||BitVec.ofInt k.bits y).toNat
def Jn (k:IntKind) (x y:Int):Int:=k.wrap (BitVec.ofInt k.bits x^^^BitVec.ofInt k.bits y).toNat
def xl (k:IntKind) (x y:Int):Int:=k.wrap (BitVec.ofInt k.bits x&&& ~~~(BitVec.ofInt k.bits y)).toNat
def mW (k:IntKind) (x y:Int):Int:=k.wrap (x*2^(min y.toNat k.bits))
def Cc (k:IntKind) (x y:Int):Int:=x.fdiv (2^(min y.toNat k.bits))
def Rj (op:BinOp) (k:IntKind) (a b:Int):Option Int:=
 match op with
 | .and=>some (yw k a b)
 | .or=>some (bOr k a b)
 | .xor=>some (Jn k a b)
 | .andNot=>some (xl k a b)
 |_=>none
def Wf (op:BinOp) (k:IntKind) (a b:Int):Option Int:=
 match op with
 | .shl=>some (mW k a b)
 | .shr=>some (Cc k a b)
 |_=>none
section
variable {P:Program} {N:Nat} {d:Tmp} {ty:TypeId} {ps:String} {af:Array Edge} {gd:Option (Nat×Bool)} {x y z:Operand} {sl:List (Nat×T)} {ob:List (Nat×Ob)} {nx:Nat}
theorem n_bit {op:BinOp} {t t':TypeId} {g g':Bool} {k:IntKind} {a b r:Int} (h:Rj op k a b=some r):
 AWN P ⟨some d,.binOp op t x y t',ty,ps,af,gd⟩ [(x,.v (.c (.d g (.i k a)))),(y,.v (.c (.d g' (.i k b))))] [] (.v (.c (.d false (.i k r)))) []:=
 ci λE ac w hn _=>by
  have h1:=jr (hn x _ (.head _))
  have h2:=jr (hn y _ (.tail _ (.head _)))
  cases op<;>simp only[Rj,Option.some.injEq,reduceCtorEq] at h<;>subst h<;>
   exact⟨_,by simp[execOp,h1,h2,eqGuard,binOp,Op.intBits];rfl,by simp[cvT,cvV,cvC,rdD,yw,bOr,Jn,xl]⟩
theorem n_sh {op:BinOp} {t t':TypeId} {g g':Bool} {k k':IntKind} {a b r:Int} (h0:0<=b) (h:Wf op k a b=some r):
 AWN P ⟨some d,.binOp op t x y t',ty,ps,af,gd⟩ [(x,.v (.c (.d g (.i k a)))),(y,.v (.c (.d g' (.i k' b))))] [] (.v (.c (.d false (.i k r)))) []:=
 ci λE ac w hn _=>by
  have h1:=jr (hn x _ (.head _))
  have h2:=jr (hn y _ (.tail _ (.head _)))
  have h0':¬b<0:=by omega
  cases op<;>simp only[Wf,Option.some.injEq,reduceCtorEq] at h<;>subst h<;>
   exact⟨_,by simp[execOp,h1,h2,eqGuard,binOp,Op.shift,h0'];rfl,by simp[cvT,cvV,cvC,rdD,mW,Cc]⟩
theorem ib {op:BinOp} {t t':TypeId} {g g':Bool} {k:IntKind} {a b r:Int} (hx:opT sl x= .v (.c (.d g (.i k a)))) (hy:opT sl y= .v (.c (.d g' (.i k b)))) (hN:nlt d N=true) (h:Rj op k a b=some r):
 NS0 P N ⟨some d,.binOp op t x y t',ty,ps,af,gd⟩ sl ob nx d (.v (.c (.d false (.i k r)))) ⟨d,[(x,.v (.c (.d g (.i k a)))),(y,.v (.c (.d g' (.i k b))))],[],.v (.c (.d false (.i k r))),[]⟩:=dx (st:=⟨sl,ob,nx⟩) (n_bit h) rfl hN ⟨hx,hy,trivial⟩ trivial rfl
theorem XE {op:BinOp} {t t':TypeId} {g g':Bool} {k k':IntKind} {a b r:Int} (h0:leB 0 b=true) (hx:opT sl x= .v (.c (.d g (.i k a)))) (hy:opT sl y= .v (.c (.d g' (.i k' b)))) (hN:nlt d N=true) (h:Wf op k a b=some r):
 NS0 P N ⟨some d,.binOp op t x y t',ty,ps,af,gd⟩ sl ob nx d (.v (.c (.d false (.i k r)))) ⟨d,[(x,.v (.c (.d g (.i k a)))),(y,.v (.c (.d g' (.i k' b))))],[],.v (.c (.d false (.i k r))),[]⟩:=dx (st:=⟨sl,ob,nx⟩) (n_sh (by simpa [leB] using h0) h) rfl hN ⟨hx,hy,trivial⟩ trivial rfl
theorem ishL {op:BinOp} {t t':TypeId} {g g':Bool} {k k':IntKind} {a r:Int} {b:Nat} (hx:opT sl x= .v (.c (.d g (.i k a)))) (hy:opT sl y= .v (.c (.d g' (.i k' (b:Int))))) (hN:nlt d N=true) (h:Wf op k a b=some r):
 NS0 P N ⟨some d,.binOp op t x y t',ty,ps,af,gd⟩ sl ob nx d (.v (.c (.d false (.i k r)))) ⟨d,[(x,.v (.c (.d g (.i k a)))),(y,.v (.c (.d g' (.i k' (b:Int)))))],[],.v (.c (.d false (.i k r))),[]⟩:=dx (st:=⟨sl,ob,nx⟩) (n_sh oaa h) rfl hN ⟨hx,hy,trivial⟩ trivial rfl
end
open Go.RowKit
def E0 (b c:Nat) (F:Nat->Prop):Env:={r:=λo=>if o=200 then some (b,c) else none,F:=F,G:=λ_=>False}
def E1 (b c:Nat) (F G:Nat->Prop):Env:={r:=λo=>if o=200 then some (b,c) else none,F:=λx=>F x\/G x,G:=G}
def TV (E:Env) (w:World):List T->List Value->Prop
 |[],[]=>True
 |t::ts,u::us=>cvT E w t u/\TV E w ts us
 |_,_=>False
structure FnW (P:Program) (f:FuncId) (x:Ob) (args:List T) (y:Ob) (res:List RV):Prop where
 enters:∀(vs:Array Value) (w:World),(callFunc f vs).run P w= .ok (.enter f vs) w
 calls:∀(F:Nat->Prop) (w:World) (vals:Array Value) (b c:Nat),(∀b,F b->b<w.heap.size)->b<w.heap.size->TabsIn w->(∀k∈vm,k≠b)->cP (E0 b c F) w 200 x->TV (E0 b c F) w args vals.toList->
  Calls P f vals w λe w'=>∃v G bs,e= .returned v/\Ja w w' (λk=>k=b)/\(∀k,G k->w.heap.size<=k/\k<w'.heap.size/\je w' k)/\yW w' G w.heap.size res v bs/\(bs.map (·.1)).Nodup/\cP (E1 b c F G) w' 200 y
def C.free:C->Bool
 | .d _ _| .nil| .any| .fn _=>true
 |_=>false
def Ob.free:Ob->Bool
 | .var _ cs=>cs.all C.free
 | .row _ _ _ _ m=>m
 | .rown .. | .abs .. =>false
theorem Rp {E E':Env} {w w':World} (hH:∀g b,E.H g b->E'.H g b) (hh:∀g b,E.H g b->w'.heap[b]?=w.heap[b]?):∀{c:C} {u:Value},c.free=true->cvC E w c u->cvC E' w' c u
 | .d g d,u,_,h=>cF (hh g) (hH g) d u h
 | .fn f,u,_,h=>h
 | .nil,u,_,h=>h
 | .any,u,_,_=>trivial
theorem Ha {E E':Env} {w w':World} (hH:∀g b,E.H g b->E'.H g b) (hh:∀g b,E.H g b->w'.heap[b]?=w.heap[b]?):∀{cs:List C} {us:List Value},cs.all C.free=true->CV E w cs us->CV E' w' cs us
 |[],[],_,_=>trivial
 |c::cs,u::us,hf,h=>by
  simp only[Zt,v0] at hf
  exact⟨Rp hH hh hf.1 h.1,Ha hH hh hf.2 h.2⟩
 |[],_::_,_,h=>h.elim
 |_::_,[],_,h=>h.elim
theorem yV {E E':Env} {w w':World} {o o':Nat} {x:Ob} (hf:x.free=true) (hr:∀b c,E.r o=some (b,c)->E'.r o'=some (b,c)) (hH:∀g b,E.H g b->E'.H g b) (hh:∀g b,E.H g b->w'.heap[b]?=w.heap[b]?)
 (hb:∀b c,E.r o=some (b,c)->w'.heap[b]?=w.heap[b]?) (hF:∀b c,E.r o=some (b,c)->¬E.F b->¬E'.F b) (h:cP E w o x):cP E' w' o' x:=by
 cases x with
 |rown ty sz els g=>exact absurd hf ZT
 |abs l y=>exact absurd hf ZT
 |var ty cs=>
  obtain⟨b,c,arr,h1,h2,h3,h4⟩:=h
  exact⟨b,c,arr,hr b c h1,(hb b c h1).trans h2,Ha hH hh hf h3,hF b c h1 h4⟩
 |row ty sz els g m=>
  obtain⟨b,c,arr,h1,h2,h3,h4,h5,h6,h7,h8,h9⟩:=h
  have hm:m=true:=hf
  subst hm
  exact⟨b,c,arr,hr b c h1,(hb b c h1).trans h2,h3,h4,h5,h6,ct (hh g) (hH g) (hb b c h1) _ _ h7,λ_=>hF b c h1 (h8 rfl),λh=>by cases h⟩
def C.loc:C->C
 | .d _ x=>.d false x
 |c=>c
def Ob.loc:Ob->Ob
 | .var ty cs=>.var ty (cs.map C.loc)
 | .row ty sz els _ m=>.row ty sz els false m
 | .rown ty sz els _=>.rown ty sz els false
 | .abs l y=>.abs l y
theorem U5 {cx:Cx} {E:Env} {w:World} (ok:c8 cx E w) {c:C} {u:Value} (h:cvC E w c u):cvC E w c.loc u:=by
 cases c with
 |d g x=>exact qj (g':=false) ok h (by simp)
 |_=>exact h
theorem QO {cx:Cx} {E:Env} {w:World} (ok:c8 cx E w):∀{cs:List C} {us:List Value},CV E w cs us->CV E w (cs.map C.loc) us
 |[],[],_=>trivial
 |c::cs,u::us,h=>⟨U5 ok h.1,QO ok h.2⟩
 |[],_::_,h=>h.elim
 |_::_,[],h=>h.elim
theorem GG {cx:Cx} {E:Env} {w:World} (ok:c8 cx E w) {o:Nat} {x:Ob} (hf:x.free=true) (h:cP E w o x):cP E w o x.loc:=by
 cases x with
 |rown ty sz els g=>exact absurd hf ZT
 |abs l y=>exact absurd hf ZT
 |var ty cs=>
  obtain⟨b,c,arr,h1,h2,h3,h4⟩:=h
  exact⟨b,c,arr,h1,h2,QO ok h3,h4⟩
 |row ty sz els g m=>
  obtain⟨b,c,arr,h1,h2,h3,h4,h5,h6,h7,h8,h9⟩:=h
  have hm:m=true:=hf
  subst hm
  refine⟨b,c,arr,h1,h2,h3,h4,h5,h6,?_,h8,λh=>by cases h⟩
  cases g with
  |false=>exact h7
  |true=>exact ct (λ_ _=>rfl) (λb hb=>ok.gf b hb) rfl _ _ h7
def wa:Nat->List T->List (Nat×T)
 |_,[]=>[]
 |k,t::ts=>(k,t)::wa (k+1) ts
theorem CD {E:Env} {w:World}:∀{ts:List T} {us:List Value} (k0:Nat),TV E w ts us->us.length=ts.length/\∀k,(k0<=k/\k<k0+ts.length->∃u,us[k-k0]?=some u/\cvT E w (gt (wa k0 ts) k) u)/\(¬(k0<=k/\k<k0+ts.length)->gt (wa k0 ts) k= .any)
 |[],[],k0,_=>⟨rfl,λk=>⟨λh=>by simp at h;omega,λ_=>rfl⟩⟩
 |t::ts,u::us,k0,h=>by
  obtain⟨h1,h2⟩:=CD (k0+1) h.2
  refine⟨by simp[h1],λk=>⟨λhk=>?_,λhk=>?_⟩⟩
  .by_cases e:k0=k
   .subst e;exact⟨u,by simp,by rw[wa,d9];exact h.1⟩
   obtain⟨v,k1,k2⟩:=(h2 k).1 (by simp at hk;omega)
   refine⟨v,?_,by rw[wa,da _ _ e];exact k2⟩
   rw[show k-k0=(k-(k0+1))+1 from by simp at hk;omega];simpa using k1
  simp at hk
  rw[wa,da _ _ oaa]
  exact(h2 k).2 oaa
 |[],_::_,_,h=>h.elim
 |_::_,[],_,h=>h.elim
theorem JH {ob:List (Nat×Ob)} {c:C} {r:RC} {ls:List Nat} (h:wj ob c=some (r,ls)):∀l∈ls,∃ty sz els,go ob l=some (.row ty sz els true true):=by
 cases c with
 |d g x=>cases x<;>(try cases g)<;>simp[wj] at h<;>obtain⟨rfl,rfl⟩:=h<;>simp
 |w o n=>
  simp only[wj] at h
  split at h
  .rename_i ty sz els ho hrv
   simp at h;obtain⟨rfl,rfl⟩:=h
   simpa using⟨ty,sz,els,ho⟩
  cases h
 |nil=>simp[wj] at h;obtain⟨rfl,rfl⟩:=h;simp
 |_=>simp[wj] at h
theorem F3 {ob:List (Nat×Ob)}:∀{cs:List C} {rs:List RC} {ls:List Nat},BG ob cs=some (rs,ls)->∀l∈ls,∃ty sz els,go ob l=some (.row ty sz els true true)
 |[],rs,ls,h=>by simp[BG] at h;obtain⟨rfl,rfl⟩:=h;simp
 |c::cs,rs,ls,h=>by
  simp only[BG] at h
  split at h
  .rename_i r l rs' ls' h1 h2
   simp at h;obtain⟨rfl,rfl⟩:=h
   intro x hx
   rcases YR.1 hx with hx|hx
   .exact JH h1 x hx
   exact F3 h2 x hx
  cases h
theorem R5 {ob:List (Nat×Ob)} {v:V} {r:RV} {ls:List Nat} (h:L5 ob v=some (r,ls)):∀l∈ls,∃ty sz els,go ob l=some (.row ty sz els true true):=by
 cases v with
 |c c=>
  simp only[L5] at h
  split at h
  .rename_i r l h1;simp at h;obtain⟨rfl,rfl⟩:=h;exact JH h1
  cases h
 |agg cs=>
  simp only[L5] at h
  split at h
  .rename_i r l h1;simp at h;obtain⟨rfl,rfl⟩:=h;exact F3 h1
  cases h
theorem F4 {ob:List (Nat×Ob)}:∀{cs:List V} {rs:List RV} {ls:List Nat},xZ ob cs=some (rs,ls)->∀l∈ls,∃ty sz els,go ob l=some (.row ty sz els true true)
 |[],rs,ls,h=>by simp[xZ] at h;obtain⟨rfl,rfl⟩:=h;simp
 |c::cs,rs,ls,h=>by
  simp only[xZ] at h
  split at h
  .rename_i r l rs' ls' h1 h2
   simp at h;obtain⟨rfl,rfl⟩:=h
   intro x hx
   rcases YR.1 hx with hx|hx
   .exact R5 h1 x hx
   exact F4 h2 x hx
  cases h
theorem Vp {P:Program} {N:Nat} {cx:Cx} {E:Env} {st:St} {a:Act} {w:World} (hR:Rel N cx E st a w) {fn:Func} {res:List RV} (h:Fin P fn.results.toList res st):
 ∃v bs,(results fn a.tmps).run P w= .ok v w/\yW w E.G cx.w0.heap.size res v bs/\(bs.map (·.1)).Nodup/\∀p∈bs,¬E.F p.1:=by
 obtain⟨vs,ls,h1,h2,h3⟩:=h
 obtain⟨us,k1,k2⟩:=vX hR h1
 obtain⟨bs,m1,m2,m3⟩:=DG hR h2 k2
 have hnd:(bs.map (·.1)).Nodup:=by
  have hnl:=ke h3
  refine Zq.2 λi j hi hj hij he=>?_
  simp only[Y3] at hi hj
  obtain⟨p,p1,p2⟩:=m3 i ls[i] (YO oaa)
  obtain⟨q,q1,q2⟩:=m3 j ls[j] (YO oaa)
  rw[YO hi] at p1
  rw[YO hj] at q1
  cases p1;cases q1
  simp only[List.getElem_map] at he
  rcases hbi:bs[i] with⟨b1,c1⟩
  rcases hbj:bs[j] with⟨b2,c2⟩
  rw[hbi,hbj] at he
  rw[hbi] at p2;rw[hbj] at q2
  have hb:b1=b2:=he
  subst hb
  exact Zq.1 hnl i j oaa oaa hij (hR.ok.inj _ _ _ _ _ p2 q2)
 have hnF:∀p∈bs,¬E.F p.1:=by
  intro p hp
  obtain⟨i,hi,rfl⟩:=List.getElem_of_mem hp
  have hl:i<ls.length:=by omega
  obtain⟨q,q1,q2⟩:=m3 i ls[i] (YO hl)
  rw[YO hi] at q1;cases q1
  obtain⟨ty,sz,els,hg⟩:=F4 h2 ls[i] (List.getElem_mem hl)
  obtain⟨b,c,arr,r1,r2,r3,r4,r5,r6,r7,r8,r9⟩:=hR.obs _ _ hg
  rw[q2] at r1
  rw[Option.some.inj r1]
  exact r8 rfl
 have hm:(fn.results.mapM (mG a.tmps)).run P w= .ok us.toArray w:=by
  rw[<-ZE (xs:=fn.results),aaf]
  simp only[Sem.run_map,k1]
  rfl
 have hres:results fn a.tmps=(fn.results.mapM (mG a.tmps))>>= λvs=>pure (if h:vs.size=1 then vs[0] else .tuple vs):=rfl
 have hlen:us.length=vs.length:=by
  have key:∀(vs:List V) (us:List Value),VV E w vs us->us.length=vs.length:=by
   intro vs
   induction vs with
   |nil=>intro us h;cases us with
    |nil=>rfl
    |cons _ _=>exact h.elim
   |cons v vs ih=>intro us h;cases us with
    |nil=>exact h.elim
    |cons u us=>simp[ih us h.2]
  exact key vs us k2
 have hlen2:us.length=res.length:=by
  have key:∀(rs:List RV) (us:List Value) (bs:List (Nat×Nat)),Cu w E.G cx.w0.heap.size rs us bs->us.length=rs.length:=by
   intro rs
   induction rs with
   |nil=>intro us bs h;cases us with
    |nil=>rfl
    |cons _ _=>exact h.elim
   |cons v vs ih=>intro us bs h;cases us with
    |nil=>exact h.elim
    |cons u us=>obtain⟨b1,b2,_,_,h⟩:=h;simp[ih us b2 h]
  exact key res us bs m1
 match res,us,m1,hlen2 with
 |[],[],m1,_=>exact⟨.tuple #[],bs,by rw[hres];simp[hm],⟨#[],rfl,m1⟩,hnd,hnF⟩
 |[r],[u],m1,_=>
  obtain⟨b1,b2,rfl,h4,h5⟩:=m1
  have:b2=[]:=h5
  subst this
  exact⟨u,b1++[],by rw[hres];simp[hm],by simpa [yW] using h4,hnd,hnF⟩
 |r1::r2::rs,u1::u2::us,m1,_=>
  exact⟨.tuple (u1::u2::us).toArray,bs,by rw[hres];simp[hm],⟨_,rfl,m1⟩,hnd,hnF⟩
theorem KD {w:World} {G G2:Nat->Prop} {base:Nat} (hG:∀b,G b->G2 b) {r:RC} {u:Value} {bs:List (Nat×Nat)} (h:rcR w G base r u bs) (hn:∀p∈bs,¬G2 p.1):rcR w G2 base r u bs:=by
 cases r with
 |d x=>exact⟨h.1,cF (λ_ _=>rfl) hG x u h.2⟩
 |own ty sz els n=>
  obtain⟨b,c,arr,h1,h2,h3,h4,h5,h6,h7,h8,h9,h10⟩:=h
  exact⟨b,c,arr,h1,h2,h3,h4,h5,h6,h7,ct (λ_ _=>rfl) hG rfl _ _ h8,hn (b,c) (by rw[h1];simp),h10⟩
 |nil=>exact h
theorem GC {w:World} {G G2:Nat->Prop} {base:Nat} (hG:∀b,G b->G2 b):∀{rs:List RC} {us:List Value} {bs:List (Nat×Nat)},Fw w G base rs us bs->(∀p∈bs,¬G2 p.1)->Fw w G2 base rs us bs
 |[],[],bs,h,_=>h
 |r::rs,u::us,bs,h,hn=>by
  obtain⟨b1,b2,rfl,h1,h2⟩:=h
  exact⟨b1,b2,rfl,KD hG h1 (λp hp=>hn p (by simp[hp])),GC hG h2 (λp hp=>hn p (by simp[hp]))⟩
 |[],_::_,_,h,_=>h.elim
 |_::_,[],_,h,_=>h.elim
theorem KQ {w:World} {G G2:Nat->Prop} {base:Nat} (hG:∀b,G b->G2 b) {r:RV} {u:Value} {bs:List (Nat×Nat)} (h:rvR w G base r u bs) (hn:∀p∈bs,¬G2 p.1):rvR w G2 base r u bs:=by
 cases r with
 |c r=>exact KD hG h hn
 |agg rs=>obtain⟨arr,h1,h2⟩:=h;exact⟨arr,h1,GC hG h2 hn⟩
theorem Bq {w:World} {G G2:Nat->Prop} {base:Nat} (hG:∀b,G b->G2 b):∀{rs:List RV} {us:List Value} {bs:List (Nat×Nat)},Cu w G base rs us bs->(∀p∈bs,¬G2 p.1)->Cu w G2 base rs us bs
 |[],[],bs,h,_=>h
 |r::rs,u::us,bs,h,hn=>by
  obtain⟨b1,b2,rfl,h1,h2⟩:=h
  exact⟨b1,b2,rfl,KQ hG h1 (λp hp=>hn p (by simp[hp])),Bq hG h2 (λp hp=>hn p (by simp[hp]))⟩
 |[],_::_,_,h,_=>h.elim
 |_::_,[],_,h,_=>h.elim
theorem Qq {w:World} {G G2:Nat->Prop} {base:Nat} (hG:∀b,G b->G2 b) {rs:List RV} {u:Value} {bs:List (Nat×Nat)} (h:yW w G base rs u bs) (hn:∀p∈bs,¬G2 p.1):yW w G2 base rs u bs:=by
 match rs,h with
 |[],h=>obtain⟨arr,h1,h2⟩:=h;exact⟨arr,h1,Bq hG h2 hn⟩
 |[r],h=>exact KQ hG h hn
 |_::_::_,h=>obtain⟨arr,h1,h2⟩:=h;exact⟨arr,h1,Bq hG h2 hn⟩
def Jb (N:Nat) (P:Program) (rs:List ResultVar) (res:List RV) (y:Ob):Exit->St->Prop
 | .ret,s| .normal,s=>∃s',dO N s s'/\Fin P rs res s'/\go s'.ob 200=some y
 |_,_=>False
instance {N:Nat} {P:Program} {rs:List ResultVar} {res:List RV} {y:Ob}:Clo N (Jb N P rs res y):=⟨λe s m hw h=>by
 cases e<;>simp only[Jb] at h ⊢<;>first|exact h|(obtain⟨s',h1,h2⟩:=h;exact⟨s',aH hw h1,h2⟩)⟩
theorem Xx {P:Program} {f:FuncId} {fn:Func} {c:Code} {N:Nat} {x y:Ob} {args:List T} {rs:List ResultVar} {res:List RV} {sl0:List (Nat×T)} (hf:P.funcs[f]?=some fn) (hb:fn.body=some c:=by exact rfl) (hnm:(fn.name== "runtime.NumGoroutine")=false:=by kernel_rfl) (hN:fn.ntmps=N) (hrs:fn.results.toList=rs:=by exact rfl)
 (ha:Zi args.length N=true:=by exact rfl) (hfx:x.free=true:=by exact rfl) (hfy:y.free=true:=by exact rfl) (hs:wa 0 args=sl0:=by exact rfl) (h:AWC P N c ⟨sl0,[(200,x)],210⟩ (Jb N P rs res y)):FnW P f x args y res:=by
 subst hs
 refine⟨λvs w=>by simp[callFunc,hf,hb];simpa using hnm,λF w vals b cc hF hbl hT hTb hx hA=>?_⟩
 subst hrs
 refine calls_of_wp hf hb ?_
 obtain⟨h1,h2⟩:=CD 0 hA
 have hle:args.length<=N:=Zx ha
 have hsz:vals.size=args.length:=by simpa using h1
 have hrv:rsv 200=true:=rfl
 have hrp:rsp 200=true:=rfl
 have hbF:¬F b:=by
  cases x with
  |rown ty sz els g=>exact absurd hfx ZT
  |abs l y=>exact absurd hfx ZT
  |var ty cs=>obtain⟨b',c',arr,h1,h2,h3,h4⟩:=hx;cases h1;exact h4
  |row ty sz els g m=>
   obtain⟨b',c',arr,h1,h2,h3,h4,h5,h6,h7,h8,h9⟩:=hx
   cases h1
   have hm:m=true:=hfx
   subst hm
   exact h8 rfl
 have hr0:∀o p,(E0 b cc F).r o=some p->o=200/\p=(b,cc):=λo p h=>by
  simp only[E0] at h
  split at h
  .cases h;exact⟨by assumption,rfl⟩
  cases h
 have hR:Rel N ⟨w,λk=>k=b,(E0 b cc F).r,F,λ_=>False,⟨hT,hTb⟩,λ_=>False⟩ (E0 b cc F) ⟨wa 0 args,[(200,x)],210⟩ {tmps:=vals++Y5 (fn.ntmps-vals.size) undef,defers:=[]} w:=by
  refine⟨⟨hF,λ_ h=>h.elim,λ_ h=>h.elim,λo k k' h=>?_,λo o' k k' k'' h h'=>?_,rfl,rfl,rfl,YW _,λ_ _ _=>rfl,λ_ _ _ h=>h,λ_ h=>.inl h,λb h h'=>absurd (hF b h) (by have:w.heap.size<=b:=h';omega),⟨λ_ _ h=>h.elim,λ_ _ _ h=>h.elim,λ_ h=>h.elim,λ_ h=>h.elim,λ_ h=>h.elim⟩⟩,λo p h=>?_,λo ob h=>?_,λk=>?_,rfl,by simp;omega,λ_ _ h=>h.elim⟩
  .obtain⟨rfl,hp⟩:=hr0 _ _ h;cases hp;exact⟨hbl,.inr ⟨rfl,hrv⟩⟩
  .rw[(hr0 _ _ h).1,(hr0 _ _ h').1]
  .rw[(hr0 _ _ h).1];exact(by decide:200<210)
  .by_cases e:200=o
   .subst e;rw[cz] at h;cases h;exact hx
   rw[bH _ _ e] at h;cases h
  by_cases hk:k<args.length
  .obtain⟨u,h3,h4⟩:=(h2 k).1 ⟨Y0 _,by omega⟩
   have:(vals++Y5 (fn.ntmps-vals.size) undef).getD k undef=u:=by
    have h5:vals[k]?=some u:=by simpa using h3
    have h6:(vals++Y5 (fn.ntmps-vals.size) undef)[k]?=some u:=by rw[Z9 oaa];exact h5
    simp[h6]
   rw[this];exact h4
  have:=(h2 k).2 oaa
  show cvT _ w (gt (wa 0 args) k) _
  rw[this];trivial
 refine wp_mono (h _ _ _ w hR) ?_
 rintro e a' w' ⟨E',s',hR',hq⟩
 have fin:(∃s'',dO N s' s''/\Fin P fn.results.toList res s''/\go s''.ob 200=some y)->
  a'.defers=[]/\∃v,(results fn a'.tmps).run P w'= .ok v w'/\∃v' G bs,Ending.returned v= .returned v'/\Ja w w' (λk=>k=b)/\(∀k,G k->w.heap.size<=k/\k<w'.heap.size/\je w' k)/\yW w' G w.heap.size res v' bs/\(bs.map (·.1)).Nodup/\cP (E1 b cc F G) w' 200 y:=by
  rintro⟨s'',hw,hfin,hgo⟩
  obtain⟨E'',hR''⟩:=hw _ _ _ _ hR'
  obtain⟨v,bs,k1,k2,k3,k4⟩:=Vp hR'' hfin
  have ok:=hR''.ok
  refine⟨hR''.dfr,v,k1,v,λk=>E''.F k/\w.heap.size<=k,bs,rfl,⟨ok.os,ok.tape,ok.output,ok.size,ok.block⟩,λk hk=>⟨hk.2,ok.fb k hk.1,ok.gc k hk.1 hk.2⟩,Qq (λk hk=>⟨ok.gf k hk,(ok.gn k hk).resolve_right id⟩) k2 (λp hp hg=>k4 p hp hg.1),k3,?_⟩
  refine yV hfy (λk c hk=>?_) (λg k hk=>?_) (λ_ _ _=>rfl) (λ_ _ _=>rfl) (λk c hk hn hk'=>?_) (hR''.obs _ _ hgo)
  .have:=ok.pin 200 _ hrp hk
   exact this
  .cases g with
   |false=>
    rcases ok.ff k hk with h|h
    .exact .inl h
    exact .inr ⟨hk,h⟩
   |true=>exact⟨ok.gf k hk,(ok.gn k hk).resolve_right id⟩
  rcases hk' with h|h
  .have:=ok.pin 200 _ hrp hk
   have h9:=hr0 200 (k,c) this
   cases h9.2
   exact hbF h
  exact hn h.1
 cases e with
 |normal=>exact fin hq
 |ret=>exact fin hq
 |_=>exact hq.elim
def xR (nob:List (Nat×Ob)) (o:Nat):C->Option (C×List (Nat×Nat))
 | .p l k=>bif YN l o then some (.p 200 k,[]) else none
 | .w l n=>bif YN l o then some (.w 200 n,[]) else match zj nob (.w l n) with
  |some (x,e)=>some (.d false x,e)
  |none=>none
 | .nil=>some (.nil,[])
 |c=>match zj nob c with
  |some (x,e)=>some (.d false x,e)
  |none=>none
def Ke (nob:List (Nat×Ob)) (o:Nat):List C->Option (List C×List (Nat×Nat))
 |[]=>some ([],[])
 |c::cs=>match xR nob o c,Ke nob o cs with
  |some (x,e),some (xs,e')=>some (x::xs,e++e')
  |_,_=>none
def XJ (nob:List (Nat×Ob)) (o:Nat):T->Option (T×List (Nat×Nat))
 | .v (.c c)=>match xR nob o c with
  |some (x,e)=>some (.v (.c x),e)
  |none=>none
 | .v (.agg cs)=>match Ke nob o cs with
  |some (x,e)=>some (.v (.agg x),e)
  |none=>none
 |_=>none
def BM (nob:List (Nat×Ob)) (o:Nat):List T->Option (List T×List (Nat×Nat))
 |[]=>some ([],[])
 |c::cs=>match XJ nob o c,BM nob o cs with
  |some (x,e),some (xs,e')=>some (x::xs,e++e')
  |_,_=>none
section
variable {cx:Cx} {E:Env} {w:World} {nob:List (Nat×Ob)} {o b c0:Nat} (ok:c8 cx E w) (hob:∀l x,go nob l=some x->cP E w l x) (hr:E.r o=some (b,c0))
include ok hob hr
theorem Od {c:C} {x:C} {e:List (Nat×Nat)} {u:Value} (h:xR nob o c=some (x,e)) (he:Eqs e) (hc:cvC E w c u):cvC (E0 b c0 (lR E nob)) w x u:=by
 have gen:∀{c x e},(match zj nob c with|some (x,e)=>some (C.d false x,e)|none=>none)=some (x,e)->Eqs e->cvC E w c u->cvC (E0 b c0 (lR E nob)) w x u:=by
  intro c x e h he hc
  split at h
  .rename_i y e' h1
   simp at h;obtain⟨rfl,rfl⟩:=h
   exact CF ok hob h1 he hc
  cases h
 cases c with
 |p l k=>
  simp only[xR] at h
  cases hb:YN l o with
  |false=>rw[hb] at h;cases h
  |true=>
   rw[hb] at h;simp at h;obtain⟨rfl,rfl⟩:=h
   have:=YT hb;subst this
   obtain⟨b',c',h1,h2⟩:=hc
   rw[hr] at h1;cases h1
   exact⟨b,c0,by simp[E0],h2⟩
 |w l n=>
  simp only[xR] at h
  cases hb:YN l o with
  |false=>rw[hb] at h;exact gen h he hc
  |true=>
   rw[hb] at h;simp at h;obtain⟨rfl,rfl⟩:=h
   have:=YT hb;subst this
   obtain⟨b',c',h1,h2⟩:=hc
   rw[hr] at h1;cases h1
   exact⟨b,c0,by simp[E0],h2⟩
 |nil=>simp[xR] at h;obtain⟨rfl,rfl⟩:=h;exact hc
 |d g y=>exact gen (by simpa only[xR] using h) he hc
 |s o sz off len=>exact gen (by simpa only[xR] using h) he hc
 |e o sz i j=>exact gen (by simpa only[xR] using h) he hc
 |q g x j=>exact gen (by simpa only[xR] using h) he hc
 |fn f=>exact gen (by simpa only[xR] using h) he hc
 |any=>exact gen (by simpa only[xR] using h) he hc
 |r l x=>exact gen (by simpa only[xR] using h) he hc
 |z x=>exact gen (by simpa only[xR] using h) he hc
 |zq x j=>exact gen (by simpa only[xR] using h) he hc
 |wn l n=>exact gen (by simpa only[xR] using h) he hc
theorem Kf:∀{cs xs:List C} {e:List (Nat×Nat)} {us:List Value},Ke nob o cs=some (xs,e)->Eqs e->CV E w cs us->CV (E0 b c0 (lR E nob)) w xs us
 |[],xs,e,us,h,he,hc=>by simp[Ke] at h;obtain⟨rfl,rfl⟩:=h;cases us with
  |nil=>trivial
  |cons _ _=>exact hc.elim
 |c::cs,xs,e,us,h,he,hc=>by
  simp only[Ke] at h
  split at h
  .rename_i x e1 xs' e2 h1 h2
   simp at h;obtain⟨rfl,rfl⟩:=h
   obtain⟨g1,g2⟩:=eG he
   cases us with
   |nil=>exact hc.elim
   |cons u us=>exact⟨Od ok hob hr h1 g1 hc.1,Kf h2 g2 hc.2⟩
  cases h
theorem Vz {t t':T} {e:List (Nat×Nat)} {u:Value} (h:XJ nob o t=some (t',e)) (he:Eqs e) (hc:cvT E w t u):cvT (E0 b c0 (lR E nob)) w t' u:=by
 unfold XJ at h
 split at h
 .split at h
  .rename_i c x e' h1;simp at h;obtain⟨rfl,rfl⟩:=h;exact Od ok hob hr h1 he hc
  cases h
 .split at h
  .rename_i cs x e' h1;simp at h;obtain⟨rfl,rfl⟩:=h
   obtain⟨arr,hu,hc⟩:=hc
   exact⟨arr,hu,Kf ok hob hr h1 he hc⟩
  cases h
 cases h
theorem Eb {a:Act}:∀{ts ts':List T} {e:List (Nat×Nat)} {args:List Operand},BM nob o ts=some (ts',e)->Eqs e->ts.length=args.length->(∀x t,(x,t)∈args.zip ts->cvT E w t (a.eval x))->TV (E0 b c0 (lR E nob)) w ts' (args.map a.eval)
 |[],ts',e,args,h,he,hl,hn=>by
  simp[BM] at h;obtain⟨rfl,rfl⟩:=h
  cases args with
  |nil=>trivial
  |cons _ _=>simp at hl
 |t::ts,ts',e,args,h,he,hl,hn=>by
  simp only[BM] at h
  split at h
  .rename_i x e1 xs' e2 h1 h2
   simp at h;obtain⟨rfl,rfl⟩:=h
   obtain⟨g1,g2⟩:=eG he
   cases args with
   |nil=>simp at hl
   |cons y args=>exact⟨Vz ok hob hr h1 g1 (hn y t (by simp)),Eb h2 g2 (by simpa using hl) (λx t hm=>hn x t (by simp[hm]))⟩
  cases h
end
theorem VO {P:Program} {N:Nat} {d:Tmp} {ty:TypeId} {ps:String} {af:Array Edge} {gd:Option (Nat×Bool)} {f:FuncId} {args:List Operand} {tys:Array TypeId} {sl:List (Nat×T)} {ob:List (Nat×Ob)} {nx o:Nat} {x0 y:Ob} {ts ts':List T} {eqs:List (Nat×Nat)} {res:List RV} {out:T} {nw:List (Nat×Ob)} {n:Nat}
 (hF:FnW P f x0.loc ts' y res) (ht:Bj sl args=some ts) (ho:go ob o=some x0) (hfx:x0.free=true) (hfy:y.free=true) (ha:BM [] o ts=some (ts',eqs)) (he:Eqs eqs) (hi:Fo nx res=some (out,nw,n)) (hw:Mw nx nw n=true) (hN:nlt d N=true):
 AWO P N ⟨some d,.call ⟨.value (.func f),args.toArray,tys⟩,ty,ps,af,gd⟩ ⟨sl,ob,nx⟩ ⟨(d,out)::sl,nw++(o,y)::ob,n⟩:=by
 intro cx E a w hR
 obtain⟨t1,t2⟩:=sP ht
 obtain⟨nob,hnob⟩:∃nob:List (Nat×Ob),nob=[]:=⟨_,rfl⟩
 rw[<-hnob] at ha
 have hob:∀l x,go nob l=some x->cP E w l x:=λl x h=>by subst hnob;cases h
 have hx0:=hR.obs o x0 ho
 obtain⟨b,c0,hr,hbF⟩:∃b c0,E.r o=some (b,c0)/\¬E.F b:=by
  cases x0 with
  |rown ty sz els g=>exact absurd hfx ZT
  |abs l y=>exact absurd hfx ZT
  |var t cs=>obtain⟨b,c,arr,h1,h2,h3,h4⟩:=hx0;exact⟨b,c,h1,h4⟩
  |row t sz els g m=>
   obtain⟨b,c,arr,h1,h2,h3,h4,h5,h6,h7,h8,h9⟩:=hx0
   have hm:m=true:=hfx
   subst hm
   exact⟨b,c,h1,h8 rfl⟩
 have hnl:∀l x,go nob l=some x->l≠o:=λl x h=>by subst hnob;cases h
 have hbC:¬lR E nob b:=by
  rintro(h|⟨l,x,c,h1,h2⟩)
  .exact hbF h
  exact hnl l x h1 (hR.ok.inj _ _ _ _ _ h2 hr)
 have hFb:∀b,lR E nob b->b<w.heap.size:=by
  rintro b (h|⟨l,x,c,h1,h2⟩)
  .exact hR.ok.fb b h
  exact(hR.ok.rb l b c h2).1
 have hbs0:=(hR.ok.rb o b c0 hr).1
 have hA:=Eb (a:=a) hR.ok hob hr ha he t1 (λx t hm=>by have:=hR.op x;rwa [Lk.mem t2 x t hm] at this)
 have hX:cP (E0 b c0 (lR E nob)) w 200 x0.loc:=by
  have hl:=GG hR.ok hfx hx0
  have hfl:x0.loc.free=true:=by
   cases x0 with
   |rown ty sz els g=>exact absurd hfx ZT
   |abs l y=>exact absurd hfx ZT
   |var t cs=>
    simp only[Ob.loc,Ob.free,List.all_map] at hfx ⊢
    refine YX.2 λc hc=>?_
    have:=YX.1 hfx c hc
    cases c<;>simp_all [C.loc,C.free]
   |row t sz els g m=>exact hfx
  have hnoG:∀E2:Env,(∀k,E.F k->E2.F k)->E2.r 200=some (b,c0)->¬E2.F b->cP E2 w 200 x0.loc:=by
   intro E2 h1 h2 h3
   cases x0 with
   |rown ty sz els g=>exact absurd hfx ZT
   |abs l y=>exact absurd hfx ZT
   |var t cs=>
    obtain⟨b',c',arr,k1,k2,k3,k4⟩:=hl
    rw[hr] at k1;cases k1
    refine⟨b,c0,arr,h2,k2,?_,h3⟩
    have key:∀(cs:List C) (us:List Value),cs.all C.free=true->CV E w (cs.map C.loc) us->CV E2 w (cs.map C.loc) us:=by
     intro cs
     induction cs with
     |nil=>
      intro us _ h
      cases us with
      |nil=>trivial
      |cons _ _=>exact h.elim
     |cons c cs ih=>
      intro us hf h
      simp only[Zt,v0] at hf
      cases us with
      |nil=>exact h.elim
      |cons u us=>
       refine⟨?_,ih us hf.2 h.2⟩
       have h5:=h.1
       cases c with
       |d g y=>exact cF (λ_ _=>rfl) h1 _ _ h5
       |nil=>exact h5
       |fn f=>exact h5
       |any=>trivial
       |_=>simp[C.free] at hf
    exact key cs _ hfx k3
   |row t sz els g m=>
    obtain⟨b',c',arr,k1,k2,k3,k4,k5,k6,k7,k8,k9⟩:=hl
    rw[hr] at k1;cases k1
    have hm:m=true:=hfx
    subst hm
    exact⟨b,c0,arr,h2,k2,k3,k4,k5,k6,ct (λ_ _=>rfl) h1 rfl _ _ k7,λ_=>h3,λh=>by cases h⟩
  exact hnoG _ (λk hk=>.inl hk) (by simp[E0]) hbC
 have hc:=hF.calls (lR E nob) w (args.map a.eval).toArray b c0 hFb hbs0 hR.ok.tabs (hR.ok.ntab hr) hX (by simpa using hA)
 have hent:=hF.enters (args.map a.eval).toArray w
 unfold Oper.wp
 have hrun:(execOp a.eval ⟨some d,.call ⟨.value (.func f),args.toArray,tys⟩,ty,ps,af,gd⟩).run P w= .ok (.enter f (args.map a.eval).toArray) w:=by
  simp only[execOp,resolve,Act.eval,Deferred.ofValue,Sem.run_bind,Sem.run_pure,Result.andThen_ok,invoke]
  simpa using hent
 rw[hrun,Oper.upon_enter]
 refine hc.mono ?_
 rintro e w' ⟨v,G,bs,rfl,hpast,hG2,hres,hnd,hY⟩
 have hdom:∀l p,E.r l=some p->l<nx:=hR.dom
 have hbs:=Il hres
 have hnw:=Nw.mem (CL hw)
 have hlab:∀l,nx<=l->l<nx+bs.length->E.r l=none/\rsv l=false:=by
  have himp:=xu (E:=⟨λo=>bs[o-nx]?,G,G,λ_ _=>False,λ_=>False,λ_=>False⟩) (λ_ h=>h) (λb _ h=>h) hi hres (λi p hi=>by simpa using hi)
  intro l h1 h2
  obtain⟨x,hx⟩:=himp.2.2.2 l h1 (by rw[himp.2.1];exact h2)
  have h3:=hnw.2 l x hx
  refine⟨?_,h3.2.2⟩
  cases hq:E.r l with
  |none=>rfl
  |some p=>have:=hdom l p hq;omega
 let E':Env:=⟨λl=>if nx<=l/\l<nx+bs.length then bs[l-nx]? else E.r l,λk=>E.F k\/G k,λk=>E.G k\/G k,E.T,E.Z,E.n⟩
 have hsz:=hpast.size
 have hws:=hR.ok.size
 have hold:∀l p,E.r l=some p->E'.r l=some p:=λl p h=>by
  show(if nx<=l/\l<nx+bs.length then bs[l-nx]? else E.r l)=some p
  rw[if_neg]
  .exact h
  rintro⟨h1,h2⟩;have:=(hlab l h1 h2).1;rw[this] at h;cases h
 have hnew:∀l b c,E'.r l=some (b,c)->(nx<=l/\l<nx+bs.length/\bs[l-nx]?=some (b,c))\/(E.r l=some (b,c)):=by
  intro l b c h
  have h:(if nx<=l/\l<nx+bs.length then bs[l-nx]? else E.r l)=some (b,c):=h
  split at h
  .rename_i hh;exact .inl ⟨hh.1,hh.2,h⟩
  exact .inr h
 have hheap:∀k,k<w.heap.size->k≠b->w'.heap[k]?=w.heap[k]?:=λk hk hne=>hpast.block k hk hne
 have hHb:∀g k,E.H g k->k≠b/\k<w.heap.size:=λg k hk=>⟨λe=>by subst e;cases g;exact hbF hk;exact hbF (hR.ok.gf _ hk),hR.ok.hb hk⟩
 have hk:kt E w E' w':=⟨hold,λg k h=>by cases g<;>exact .inl h,λg k h=>hheap k (hHb g k h).2 (hHb g k h).1,λl k h=>⟨h,hheap k (hR.ok.sf.tb l k h).1.1 (λe=>by subst e;exact(hR.ok.sf.tb l k h).2.2.1 o c0 hr)⟩,λk h=>⟨h,.of_eq (hheap k (hR.ok.sf.zb k h).1.2.1 (λe=>by subst e;exact(hR.ok.sf.zb k h).2.2.1 o c0 hr))⟩,rfl⟩
 have ok':c8 cx E' w':=by
  refine⟨λk h=>?_,λk h=>?_,λk h=>?_,λl k c h=>?_,λl l' k c c' h h'=>?_,by rw[hpast.os];exact hR.ok.os,by rw[hpast.tape];exact hR.ok.tape,by rw[hpast.output];exact hR.ok.output,by omega,λk h hW=>?_,λl p hv h=>?_,λk h=>?_,
   λk h h'=>h.elim (λh=>(hR.ok.gc k h h').of_eq (hheap k (hHb false k h).2 (hHb false k h).1)) (λh=>(hG2 k h).2.2),
   hR.ok.sf.turn hr rfl rfl (λk h=>h.elim .inl (λh=>.inr (hG2 k h).1)) (λl k c h=>by
    rcases hnew l k c h with⟨_,_,h⟩|h
    .exact .inr (hbs _ (YS h)).1
    exact .inl ⟨l,c,h⟩) hsz hheap⟩
  .rcases h with h|h
   .have:=hR.ok.fb k h;omega
   exact(hG2 k h).2.1
  .rcases h with h|h
   .exact .inl (hR.ok.gf k h)
   exact .inr h
  .rcases h with h|h
   .exact hR.ok.gn k h
   have:=hG2 k h;omega
  .rcases hnew l k c h with⟨_,_,h⟩|h
   .have:=hbs _ (YS h);exact⟨this.2,.inl (by have:=this.1;simp at this;omega)⟩
   have:=hR.ok.rb l k c h;exact⟨by omega,this.2⟩
  .rcases hnew l k c h with⟨h1,h2,h3⟩|h3<;>rcases hnew l' k c' h' with⟨k1,k2,k3⟩|k3
   .have hi:l-nx<bs.length:=by omega
    have hj:l'-nx<bs.length:=by omega
    rcases aad (l-nx) (l'-nx) with hlt|heq|hlt
    .exfalso
     have:=Zq.1 hnd (l-nx) (l'-nx) (by simpa using hi) (by simpa using hj) hlt
     rw[YO hi] at h3;rw[YO hj] at k3
     simp at h3 k3;simp[h3,k3] at this
    .omega
    exfalso
    have:=Zq.1 hnd (l'-nx) (l-nx) (by simpa using hj) (by simpa using hi) hlt
    rw[YO hi] at h3;rw[YO hj] at k3
    simp at h3 k3;simp[h3,k3] at this
   .have h5:=hbs _ (YS h3);have h6:=hR.ok.rb l' k c' k3;simp at h5;omega
   .have h5:=hbs _ (YS k3);have h6:=hR.ok.rb l k c h3;simp at h5;omega
   exact hR.ok.inj l l' k c c' h3 k3
  .have hkb:k≠b:=λe=>by
    subst e
    rcases(hR.ok.rb o k c0 hr).2 with h'|h'
    .omega
    exact hW h'.1
   rw[hheap k oaa hkb];exact hR.ok.block k h hW
  .rcases hnew l p.1 p.2 h with⟨h1,h2,_⟩|h
   .rw[sQ (hlab l h1 h2).2] at hv;cases hv
   exact hR.ok.pin l p hv h
  rcases h with h|h
  .exact hR.ok.ff k h
  exact .inr (by have:=hG2 k h;omega)
 have himp:=xu (E:=E') (G:=G) (base:=w.heap.size) (λb h=>.inr h) (λb hb hng hF=>by
  rcases hF with h|h
  .have:=hR.ok.fb b h;omega
  exact hng h) hi hres (λi p hi=>by
  have:i<bs.length:=(YP.1 hi).1
  show(if nx<=nx+i/\nx+i<nx+bs.length then bs[nx+i-nx]? else E.r (nx+i))=some p
  rw[if_pos oaa];simpa using hi)
 refine⟨E',ok',λl p h=>?_,λl x hl=>?_,λk=>?_,hR.dfr,by simpa [Act.put] using hR.size,λl k h=>Zg (hR.td l k h) hnw.1⟩
 .rcases hnew l p.1 p.2 h with⟨h1,h2,_⟩|h
  .obtain⟨x,hx⟩:=himp.2.2.2 l h1 (by rw[himp.2.1];exact h2);exact(hnw.2 l x hx).2.1
  have:=hdom l p h;show l<n;omega
 .rcases A3 hl with h|h
  .exact(himp.2.2.1 l x h).1
  by_cases hlo:o=l
  .subst hlo
   rw[cz] at h;cases h
   refine yV hfy (λk c h=>?_) (λg k h=>?_) (λ_ _ _=>rfl) (λ_ _ _=>rfl) (λk c h hn hh=>?_) hY
   .simp[E1] at h;rw[<-h.1,<-h.2];exact hold _ _ hr
   .cases g with
    |false=>
     rcases h with h|h
     .rcases h with h|⟨l,x,c,h1,h2⟩
      .exact .inl h
      subst hnob;cases h1
     exact .inr h
    |true=>exact .inr h
   simp[E1] at h;obtain⟨rfl,rfl⟩:=h
   rcases hh with hh|hh
   .exact hbF hh
   have:=hG2 _ hh;omega
  rw[bH _ _ hlo] at h
  exact gE hk (λk c h'=>hheap k (hR.ok.rb _ _ _ h').1 (λe=>hlo (by subst e;exact hR.ok.inj _ _ _ _ _ hr h'))) (λk c h' hn hh=>by
   rcases hh with hh|hh
   .exact hn hh
   have:=hG2 k hh;have:=(hR.ok.rb _ _ _ h').1;omega) (hR.obs l x h)
 rw[ij (by rw[hR.size];exact cX hN)]
 by_cases hdk:d=k
 .subst hdk;rw[d9,if_pos rfl];exact himp.1
 rw[da _ _ hdk,if_neg hdk];exact jX hk (hR.sl k)
theorem cw {P:Program} {N:Nat} {d:Tmp} {ty:TypeId} {ps:String} {af:Array Edge} {gd:Option (Nat×Bool)} {f:FuncId} {args:List Operand} {tys:Array TypeId} {sl:List (Nat×T)} {ob ob':List (Nat×Ob)} {nx o:Nat} {x0 x1 y:Ob} {ts ts':List T} {eqs:List (Nat×Nat)} {res:List RV} {out:T} {nw:List (Nat×Ob)} {n:Nat}
 (hF:FnW P f x1 ts' y res) (ht:Bj sl args=some ts:=by exact rfl) (ho:go ob o=some x0:=by exact rfl) (hl:x0.loc=x1:=by exact rfl) (hfx:x0.free=true:=by exact rfl) (hfy:y.free=true:=by exact rfl) (ha:BM [] o ts=some (ts',eqs):=by exact rfl) (he:Eqs eqs:=by repeat (first|exact trivial|refine⟨by first|rfl|exact lm _|simp,?_⟩)) (hi:Fo nx res=some (out,nw,n):=by exact rfl) (hw:Mw nx nw n=true:=by exact rfl) (hN:nlt d N=true:=by exact rfl) (hob:apO nw ((o,y)::ob)=some ob':=by exact rfl):
 AWO P N ⟨some d,.call ⟨.value (.func f),args.toArray,tys⟩,ty,ps,af,gd⟩ ⟨sl,ob,nx⟩ ⟨(d,out)::sl,ob',n⟩:=by
 subst hl
 rw[vZ hob]
 exact VO hF ht ho hfx hfy ha he hi hw hN
theorem pf {N:Nat} {P:Program} {s:St} {rs:List ResultVar} {res res':List RV} {vs:List V} {ls:List Nat} {y y':Ob} (h:qd P s rs vs:=by repeat' (first|exact .nil|apply qd.cons|exact .tmp rfl|exact .cell rfl rfl rfl|exact .cell1 rfl rfl)) (he:xZ s.ob vs=some (res',ls):=by exact rfl) (hn:oB ls=true:=by exact rfl) (hr:res'=res:=by first|rfl|simp) (hy:go s.ob 200=some y':=by exact rfl) (hyy:y'=y:=by first|rfl|simp):Jb N P rs res y .ret s:=by
 subst hr;subst hyy;exact⟨s,xJ s,⟨vs,ls,h,he,hn⟩,hy⟩
open Go.RowKit
structure FnN (P:Program) (f:FuncId) (args:List AV) (ty:TypeId) (xs:List D):Prop where
 enters:∀(vs:Array Value) (w:World),(callFunc f vs).run P w= .ok (.enter f vs) w
 calls:∀(F:Nat->Prop) (w:World) (vals:Array Value),(∀b,F b->b<w.heap.size)->TabsIn w->AR w F args vals.toList->
  Calls P f vals w λe w'=>∃(b:Nat) (arr:Array Value) (G:Nat->Prop),e= .returned (.pointer (some ⟨b,0,none⟩))/\Ja w w' (λ_=>False)/\(∀k,G k->w.heap.size<=k/\k<w'.heap.size/\je w' k)/\w.heap.size<=b/\b<w'.heap.size/\¬G b/\w'.heap[b]?=some (.cells arr ty (0,0))/\DV w' (λk=>F k\/G k) xs arr.toList
def JF:C->Option D
 | .d _ x=>some x
 | .nil=>some (.l [])
 |_=>none
def yB:List C->Option (List D)
 |[]=>some []
 |c::cs=>match JF c,yB cs with
  |some x,some xs=>some (x::xs)
  |_,_=>none
theorem RB {cx:Cx} {E:Env} {w:World} (ok:c8 cx E w) {c:C} {x:D} {u:Value} (h:JF c=some x) (hc:cvC E w c u):rdD w E.F x u:=by
 cases c with
 |d g y=>simp[JF] at h;subst h;exact qj (g':=false) ok hc (by simp)
 |nil=>
  simp[JF] at h;subst h
  have hu:u= .slice none 0 0:=hc
  subst hu
  rw[rdD];exact⟨none,0,rfl,YW _,.inl rfl⟩
 |_=>simp[JF] at h
theorem FY {cx:Cx} {E:Env} {w:World} (ok:c8 cx E w):∀{cs:List C} {xs:List D} {us:List Value},yB cs=some xs->CV E w cs us->DV w E.F xs us
 |[],xs,[],h,_=>by simp[yB] at h;subst h;trivial
 |[],_,_::_,_,hc=>hc.elim
 |c::cs,xs,[],h,hc=>hc.elim
 |c::cs,xs,u::us,h,hc=>by
  simp only[yB] at h
  split at h
  .rename_i x xs' h1 h2
   simp at h;subst h
   exact⟨RB ok h1 hc.1,FY ok h2 hc.2⟩
  cases h
theorem He {w w':World} {F F':Nat->Prop} (hw:∀b,F b->w'.heap[b]?=w.heap[b]?) (hF:∀b,F b->F' b):∀{xs:List D} {us:List Value},DV w F xs us->DV w' F' xs us
 |[],[],_=>trivial
 |x::xs,u::us,h=>⟨cF hw hF x u h.1,He hw hF h.2⟩
 |[],_::_,h=>h.elim
 |_::_,[],h=>h.elim
def Nm (N:Nat) (rs:List ResultVar) (ty:TypeId) (xs:List D):Exit->St->Prop
 | .ret,s| .normal,s=>∃s' k o cs,dO N s s'/\rs=[.tmp k]/\gt s'.sl k= .v (.c (.p o 0))/\go s'.ob o=some (.var ty cs)/\yB cs=some xs/\rsv o=false
 |_,_=>False
instance {N:Nat} {rs:List ResultVar} {ty:TypeId} {xs:List D}:Clo N (Nm N rs ty xs):=⟨λe s m hw h=>by
 cases e<;>simp only[Nm] at h ⊢<;>first|exact h|(obtain⟨s',k,o,cs,h1,h2⟩:=h;exact⟨s',k,o,cs,aH hw h1,h2⟩)⟩
theorem R6 {N:Nat} {s:St} {rs:List ResultVar} {ty:TypeId} {xs xs':List D} {k o:Nat} {cs:List C} (h1:rs=[.tmp k]:=by exact rfl) (h2:gt s.sl k= .v (.c (.p o 0)):=by exact rfl) (h3:go s.ob o=some (.var ty cs):=by exact rfl) (h4:yB cs=some xs':=by exact rfl) (h5:rsv o=false:=by exact rfl) (h6:xs'=xs:=by exact rfl):Nm N rs ty xs .ret s:=by
 subst h6;exact⟨s,k,o,cs,xJ s,h1,h2,h3,h4,h5⟩
theorem Xw {P:Program} {f:FuncId} {fn:Func} {c:Code} {N:Nat} {args:List AV} {rs:List ResultVar} {ty:TypeId} {xs:List D} {sl0:List (Nat×T)} (hf:P.funcs[f]?=some fn) (hb:fn.body=some c:=by exact rfl) (hnm:(fn.name== "runtime.NumGoroutine")=false:=by kernel_rfl) (hN:fn.ntmps=N) (hrs:fn.results.toList=rs:=by exact rfl)
 (ha:Zi args.length N=true:=by exact rfl) (hs:LG 0 args=some sl0:=by exact rfl) (h:AWC P N c ⟨sl0,[],0⟩ (Nm N rs ty xs)):FnN P f args ty xs:=by
 rw[Ho hs] at h
 refine⟨λvs w=>by simp[callFunc,hf,hb];simpa using hnm,λF w vals hF hT hA=>?_⟩
 subst hrs
 refine calls_of_wp hf hb ?_
 let E:Env:={r:=λ_=>none,F:=F,G:=λ_=>False}
 obtain⟨h1,h2⟩:=Df (E:=E) (F:=F) rfl 0 hA
 have hle:args.length<=N:=Zx ha
 have hsz:vals.size=args.length:=by simpa using h1
 have hR:Rel N ⟨w,λ_=>False,λ_=>none,F,λ_=>False,⟨hT,λ_ _ h=>h⟩,λ_=>False⟩ E ⟨vB 0 args,[],0⟩ {tmps:=vals++Y5 (fn.ntmps-vals.size) undef,defers:=[]} w:=by
  refine⟨⟨hF,λ_ h=>h.elim,λ_ h=>h.elim,(λ_ _ _ h=>by cases h),(λ_ _ _ _ _ h=>by cases h),rfl,rfl,rfl,YW _,λ_ _ _=>rfl,(λ_ _ _ h=>by cases h),λ_ h=>.inl h,λb h h'=>absurd (hF b h) (by have:w.heap.size<=b:=h';omega),⟨λ_ _ h=>h.elim,λ_ _ _ h=>h.elim,λ_ h=>h.elim,λ_ h=>h.elim,λ_ h=>h.elim⟩⟩,(λ_ _ h=>by cases h),(λ_ _ h=>by cases h),λk=>?_,rfl,by simp;omega,λ_ _ h=>h.elim⟩
  by_cases hk:k<args.length
  .obtain⟨u,h3,h4⟩:=(h2 k).1 ⟨Y0 _,by omega⟩
   have:(vals++Y5 (fn.ntmps-vals.size) undef).getD k undef=u:=by
    have h5:vals[k]?=some u:=by simpa using h3
    have h6:(vals++Y5 (fn.ntmps-vals.size) undef)[k]?=some u:=by rw[Z9 oaa];exact h5
    simp[h6]
   rw[this];exact h4
  have:=(h2 k).2 oaa
  show cvT E w (gt (vB 0 args) k) _
  rw[this];trivial
 refine wp_mono (h _ E _ w hR) ?_
 rintro e a' w' ⟨E',s',hR',hq⟩
 have fin:(∃s'' k o cs,dO N s' s''/\fn.results.toList=[.tmp k]/\gt s''.sl k= .v (.c (.p o 0))/\go s''.ob o=some (.var ty cs)/\yB cs=some xs/\rsv o=false)->
  a'.defers=[]/\∃v,(results fn a'.tmps).run P w'= .ok v w'/\∃(b:Nat) (arr:Array Value) (G:Nat->Prop),Ending.returned v= .returned (.pointer (some ⟨b,0,none⟩))/\Ja w w' (λ_=>False)/\(∀k,G k->w.heap.size<=k/\k<w'.heap.size/\je w' k)/\w.heap.size<=b/\b<w'.heap.size/\¬G b/\w'.heap[b]?=some (.cells arr ty (0,0))/\DV w' (λk=>F k\/G k) xs arr.toList:=by
  rintro⟨s'',k,o,cs,hw,hr1,hg,ho,hd,hv⟩
  obtain⟨E'',hR''⟩:=hw _ _ _ _ hR'
  have ok:=hR''.ok
  have hsl:=hR''.sl k
  rw[hg] at hsl
  obtain⟨b,cc,hrb,hu⟩:=hsl
  obtain⟨b',c',arr,k1,k2,k3,k4⟩:=hR''.obs o _ ho
  rw[hrb] at k1;cases k1
  have hfr:fn.results= #[.tmp k]:=by apply Z5;simpa using hr1
  refine⟨hR''.dfr,.pointer (some ⟨b,0,none⟩),?_,b,arr,λk=>E''.F k/\w.heap.size<=k,rfl,⟨ok.os,ok.tape,ok.output,ok.size,ok.block⟩,λk hk=>⟨hk.2,ok.fb k hk.1,ok.gc k hk.1 hk.2⟩,?_,(ok.rb o b cc hrb).1,λh=>k4 h.1,k2,?_⟩
  .have hres:results fn a'.tmps=(fn.results.mapM (mG a'.tmps))>>= λvs=>pure (if h:vs.size=1 then vs[0] else .tuple vs):=rfl
   rw[hres,hfr]
   simp[mG,hu]
  .rcases(ok.rb o b cc hrb).2 with h|h
   .exact h
   exact h.1.elim
  exact He (λ_ _=>rfl) (λk hk=>(ok.ff k hk).elim .inl (λh=>.inr ⟨hk,h⟩)) (FY ok hd k3)
 cases e with
 |normal=>exact fin hq
 |ret=>exact fin hq
 |_=>exact hq.elim
theorem VG {P:Program} {d:Tmp} {ty0:TypeId} {ps:String} {af:Array Edge} {gd:Option (Nat×Bool)} {f:FuncId} {args:List Operand} {tys:Array TypeId} {ts:List T} {avs:List AV} {eqs:List (Nat×Nat)} {ty:TypeId} {xs:List D} {nx:Nat}
 (hl:ts.length=args.length) (ha:G3 [] ts=some (avs,eqs)) (hF:FnN P f avs ty xs) (he:Eqs eqs):
 AWN P ⟨some d,.call ⟨.value (.func f),args.toArray,tys⟩,ty0,ps,af,gd⟩ (args.zip ts) [] (.v (.c (.p nx 0))) [(nx,.var ty (xs.map (ldC false)))]:=by
 intro cx E a w ok hn hb hfr
 have hA:=Ln ok (nob:=[]) (λl x h=>by cases h) ha he hl hn
 have hcF:∀b,lR E [] b->E.F b:=by
  rintro b (h|⟨l,x,c,h1,h2⟩)
  .exact h
  cases h1
 have hc:=hF.calls (lR E []) w (args.map a.eval).toArray (λb h=>ok.fb b (hcF b h)) ok.tabs (by simpa using hA)
 have hent:=hF.enters (args.map a.eval).toArray w
 unfold Oper.wp
 have hrun:(execOp a.eval ⟨some d,.call ⟨.value (.func f),args.toArray,tys⟩,ty0,ps,af,gd⟩).run P w= .ok (.enter f (args.map a.eval).toArray) w:=by
  simp only[execOp,resolve,Act.eval,Deferred.ofValue,Sem.run_bind,Sem.run_pure,Result.andThen_ok,invoke]
  simpa using hent
 rw[hrun,Oper.upon_enter]
 refine hc.mono ?_
 rintro e w' ⟨b,arr,G,rfl,hp,hG,hb1,hb2,hbG,hh,hD⟩
 obtain⟨hl0,hrv⟩:=hfr nx (.var ty (xs.map (ldC false))) (ZS.2 rfl)
 obtain⟨ok',ext⟩:=F2 (nx:=nx) (bs:=[(b,0)]) ok hp hG (by simp;exact⟨hb1,hb2⟩) (by simp) (λl h1 h2=>by
  have:l=nx:=by simp at h2;omega
  subst this;exact⟨hl0,hrv⟩)
 have hr:(E.after nx [(b,0)] G).r nx=some (b,0):=by simp[Env.after]
 refine⟨.pointer (some ⟨b,0,none⟩),E.after nx [(b,0)] G,rfl,ok',ext,⟨b,0,hr,rfl⟩,λl ob hm=>?_,λl x hx=>?_⟩
 .simp at hm;obtain⟨rfl,rfl⟩:=hm
  refine⟨b,0,arr,hr,hh,?_,?_⟩
  .exact QR (E:=E.after l [(b,0)] G) (F:=λk=>E.F k\/G k) rfl (He (λ_ _=>rfl) (λk hk=>hk.elim (λh=>.inl (hcF k h)) .inr) hD)
  rintro(h|h)
  .have:=ok.fb b h;omega
  exact hbG h
 simp only[Env.after] at hx
 split at hx
 .rename_i hh2
  have:l=nx:=by have:=hh2.2;simp at this;omega
  subst this;exact .inr ⟨.var ty (xs.map (ldC false)),ZS.2 rfl⟩
 exact .inl hx
theorem cn {P:Program} {N:Nat} {d:Tmp} {ty0:TypeId} {ps:String} {af:Array Edge} {gd:Option (Nat×Bool)} {f:FuncId} {args:List Operand} {tys:Array TypeId} {sl:List (Nat×T)} {ob:List (Nat×Ob)} {nx nx':Nat} {ts:List T} {avs:List AV} {eqs:List (Nat×Nat)} {ty:TypeId} {xs:List D} {cs:List C}
 (hF:FnN P f avs ty xs) (ht:Bj sl args=some ts) (ha:G3 [] ts=some (avs,eqs)) (he:Eqs eqs) (hc:ldO false xs=some cs) (hN:nlt d N=true) (hq:nxt nx=some nx'):
 NS P N ⟨some d,.call ⟨.value (.func f),args.toArray,tys⟩,ty0,ps,af,gd⟩ ⟨sl,ob,nx⟩ ⟨(d,.v (.c (.p nx 0)))::sl,(nx,.var ty cs)::ob,nx'⟩ ⟨d,args.zip ts,[],.v (.c (.p nx 0)),[(nx,.var ty cs)]⟩:=by
 obtain⟨h1,h2⟩:=sP ht
 rw[HX hc]
 exact dx (st:=⟨sl,ob,nx⟩) (VG h1 ha hF he) rfl hN h2 trivial (rH hq)
open Go.RowKit
def EZ (R:Nat->Prop):Env:={r:=λ_=>none,F:=λ_=>False,G:=λ_=>False,Z:=R}
structure WB (w w':World) (R:Nat->Prop):Prop where
 os:w'.os=w.os
 tape:w'.tape=w.tape
 output:w'.output=w.output
 size:w.heap.size<=w'.heap.size
 block:∀b,b<w.heap.size->¬R b->w'.heap[b]?=w.heap[b]?
 sim:∀b,R b->qS w w' b/\je w' b
structure FnM (P:Program) (f:FuncId) (args:List T) (n:Int):Prop where
 enters:∀(vs:Array Value) (w:World),(callFunc f vs).run P w= .ok (.enter f vs) w
 calls:∀(R:Nat->Prop) (w:World) (vals:Array Value),(∀b,R b->b<w.heap.size/\je w b)->TabsIn w->(∀k∈vm,¬R k)->TV (EZ R) w args vals.toList->
  Calls P f vals w λe w'=>e= .returned (.int .i64 n)/\WB w w' R
section
variable {P:Program} {N:Nat} {d:Tmp} {x y:Operand} {ty:TypeId} {ps:String} {af:Array Edge} {gd:Option (Nat×Bool)} {sl:List (Nat×T)} {ob:List (Nat×Ob)} {nx:Nat} {α:Type} {enc:α->List D}
theorem VK {t:TypeId} {xs:List (List D)} {e sz by_:Nat} [ht:TySl P t e sz by_]:AWN P ⟨some d,.call ⟨.builtin .len,#[x],#[t]⟩,ty,ps,af,gd⟩ [(x,.v (.c (.z (.l xs))))] [] (tI xs.length) []:=
 ci λE ac w hn _=>by
  have h:=hn x _ (.head _)
  simp only[cvT,cvV,cvC,rsD] at h
  obtain⟨A,c,hu,_⟩:=h
  exact⟨_,by simp[execOp,resolve,invoke,builtin,hu,Builtin.len_,underlying,ht.u,goInt];rfl,by simp[cvT,cvV,cvC,rdD]⟩
theorem P0 {t:TypeId} {f off ft:Nat} {e:List D} {j:Nat} [h:TyF P t f off ft]:AWN P ⟨some d,.fieldAddr t x f,ty,ps,af,gd⟩ [(x,.v (.c (.zq e j)))] [] (.v (.c (.zq e (j+off)))) []:=
 ci λE a w hn _=>by
  obtain⟨b,k,hu,hb,hl⟩:=hn x _ (.head _)
  exact⟨_,by simp[execOp,hu,sm];rfl,b,k,by simp[Nat.add_assoc],hb,hl⟩
theorem Tf {t:TypeId} {e:List D} {j:Nat} {xd:D} [ht:TySc P t] (hc:e[j]?=some xd):AWN P ⟨some d,.load t x,ty,ps,af,gd⟩ [(x,.v (.c (.zq e j)))] [] (.v (.c (.z xd))) []:=
 ci λE a w hn _=>by
  obtain⟨b,k,hu,hb,hl⟩:=hn x _ (.head _)
  obtain⟨u,h1,h2⟩:=ME hl hc
  exact⟨u,by simp[execOp,hu,mD h1],h2⟩
theorem KO {w:World} {F:Nat->Prop}:∀{e:List D} {b k:Nat},rsL w F e b k->∃us:List Value,us.length=e.length/\(∀(j:Nat) (u:Value),us[j]?=some u->w.cell? ⟨b,k+j,none⟩=some u)/\∀(j:Nat) (xd:D),e[j]?=some xd->∃u,us[j]?=some u/\rsD w F xd u
 |[],b,k,_=>⟨[],rfl,by simp,by simp⟩
 |x::e,b,k,h=>by
  rw[rsL] at h
  obtain⟨⟨u,hc,hu⟩,h⟩:=h
  obtain⟨us,h1,h2,h3⟩:=KO h
  refine⟨u::us,by simp[h1],λj v hj=>?_,λj xd hj=>?_⟩
  .cases j with
   |zero=>simp at hj;subst hj;simpa using hc
   |succ j=>have:=h2 j v (by simpa using hj);rwa [show k+1+j=k+(j+1) from by omega] at this
  cases j with
  |zero=>simp at hj;subst hj;exact⟨u,rfl,hu⟩
  |succ j=>obtain⟨v,h4,h5⟩:=h3 j xd (by simpa using hj);exact⟨v,by simpa using h4,h5⟩
theorem IY {E:Env} {w:World}:∀{e:List D} {us:List Value},us.length=e.length->(∀(j:Nat) (xd:D),e[j]?=some xd->∃u,us[j]?=some u/\rsD w E.Z xd u)->CV E w (e.map C.z) us
 |[],[],_,_=>trivial
 |x::e,u::us,hl,h=>by
  obtain⟨v,h1,h2⟩:=h 0 x rfl
  simp at h1;subst h1
  exact⟨h2,IY (by simpa using hl) λj xd hj=>by obtain⟨v,h3,h4⟩:=h (j+1) xd (by simpa using hj);exact⟨v,by simpa using h3,h4⟩⟩
 |[],_::_,hl,_=>by simp at hl
 |_::_,[],hl,_=>by simp at hl
theorem Ey {w:World} {F:Nat->Prop}:∀{e:List D} {b k:Nat} (_:rsL w F e b k) (j n:Nat),rsL w F ((e.drop j).take n) b (k+j)
 |[],b,k,_,j,n=>by simp[rsL]
 |x::e,b,k,h,0,0=>by simp[rsL]
 |x::e,b,k,h,0,n+1=>by
  rw[rsL] at h
  have:=Ey h.2 0 n
  simp only[ZF,Zs,Zy] at this ⊢
  rw[rsL];exact⟨h.1,this⟩
 |x::e,b,k,h,j+1,n=>by
  rw[rsL] at h
  have:=Ey h.2 j n
  simp only[aai]
  rwa [show k+1+j=k+(j+1) from by omega] at this
def zO:List D->Option (List C)
 |[]=>some []
 |x::xs=>match zO xs with|some r=>some (.z x::r)|none=>none
theorem W5:∀{xs:List D} {cs:List C},zO xs=some cs->cs=xs.map C.z
 |[],cs,h=>by simp[zO] at h;subst h;rfl
 |x::xs,cs,h=>by
  simp only[zO] at h
  split at h
  .rename_i r h1;simp at h;subst h;rw[W5 h1];rfl
  cases h
def zPO (j n:Nat) (e:List D):Option (List C):=match z8 j n e with|some r=>zO r|none=>none
theorem Ic {t:TypeId} {n:Nat} {e:List D} {j:Nat} {cs:List C} [ht:TyAg P t n] (hj:zPO j n e=some cs):
 AWN P ⟨some d,.load t x,ty,ps,af,gd⟩ [(x,.v (.c (.zq e j)))] [] (.v (.agg cs)) []:=
 ci λE a w hn _=>by
  simp only[zPO] at hj
  split at hj
  .rename_i r h1
   obtain⟨rfl,hle⟩:=Aa h1
   rw[W5 hj]
   obtain⟨b,k,hu,hb,hl⟩:=hn x _ (.head _)
   obtain⟨us,k1,k2,k3⟩:=KO (Ey hl j n)
   have hlen:us.length=n:=by rw[k1];simp;omega
   exact⟨.agg us.toArray,by simp[execOp,hu,rF hlen k2],us.toArray,rfl,by simpa using IY k1 k3⟩
  cases hj
theorem lz {t:TypeId} {xs:List α} {e sz by_:Nat} [TySl P t e sz by_] (hx:opT sl x= .v (.c (.z (.l (xs.map enc))))) (hN:nlt d N=true):
 NS0 P N ⟨some d,.call ⟨.builtin .len,#[x],#[t]⟩,ty,ps,af,gd⟩ sl ob nx d (tI xs.length) ⟨d,[(x,.v (.c (.z (.l (xs.map enc)))))],[],tI xs.length,[]⟩:=by
 have:=dx (st:=⟨sl,ob,nx⟩) (VK (P:=P) (d:=d) (ty:=ty) (ps:=ps) (af:=af) (gd:=gd) (t:=t) (xs:=xs.map enc) (x:=x)) rfl hN ⟨hx,trivial⟩ trivial rfl
 rwa [Y3] at this
theorem fz {t:TypeId} {f off ft:Nat} {e:List D} {j j':Nat} [TyF P t f off ft] (hx:opT sl x= .v (.c (.zq e j))) (hN:nlt d N=true) (hk:j+off=j'):NS0 P N ⟨some d,.fieldAddr t x f,ty,ps,af,gd⟩ sl ob nx d (.v (.c (.zq e j'))) ⟨d,[(x,.v (.c (.zq e j)))],[],.v (.c (.zq e j')),[]⟩:=by
 subst hk;exact dx (st:=⟨sl,ob,nx⟩) P0 rfl hN ⟨hx,trivial⟩ trivial rfl
theorem oz {t:TypeId} {e:List D} {j:Nat} {xd:D} [TySc P t] (hx:opT sl x= .v (.c (.zq e j))) (hN:nlt d N=true) (hc:e[j]?=some xd):
 NS0 P N ⟨some d,.load t x,ty,ps,af,gd⟩ sl ob nx d (.v (.c (.z xd))) ⟨d,[(x,.v (.c (.zq e j)))],[],.v (.c (.z xd)),[]⟩:=dx (st:=⟨sl,ob,nx⟩) (Tf hc) rfl hN ⟨hx,trivial⟩ trivial rfl
theorem oza {t:TypeId} {n:Nat} {e:List D} {j:Nat} {cs:List C} [TyAg P t n] (hx:opT sl x= .v (.c (.zq e j))) (hN:nlt d N=true) (hc:zPO j n e=some cs):
 NS0 P N ⟨some d,.load t x,ty,ps,af,gd⟩ sl ob nx d (.v (.agg cs)) ⟨d,[(x,.v (.c (.zq e j)))],[],.v (.agg cs),[]⟩:=dx (st:=⟨sl,ob,nx⟩) (Ic hc) rfl hN ⟨hx,trivial⟩ trivial rfl
def yi:D->C->Bool
 | .i k _,.d _ (.i k' _)=>k==k'
 | .b _,.d _ (.b _)=>true
 | .str _,.d _ (.str _)=>true
 |_,_=>false
theorem TQ {cx:Cx} {E:Env} {st:St} {a:Act} {w w':World} (hR:Rel N cx E st a w) (hp:WB w w' E.Z):Rel N cx E st a w':=by
 have hz:∀b,E.Z b->¬E.F b:=λb h=>(hR.ok.sf.zb b h).2.1
 have hHn:∀g b,E.H g b->¬E.Z b:=λg b h hb=>by cases g;exact hz b hb h;exact hz b hb (hR.ok.gf b h)
 have hrn:∀o b c,E.r o=some (b,c)->¬E.Z b:=λo b c h hb=>(hR.ok.sf.zb b hb).2.2.1 o c h
 have htn:∀l b,E.T l b->¬E.Z b:=λl b h hb=>by have h1:=(hR.ok.sf.tb l b h).1.2;have h2:=(hR.ok.sf.zb b hb).1.1;omega
 have hk:kt E w E w':=⟨λ_ _ h=>h,λ_ _ h=>h,λg b h=>hp.block b (hR.ok.hb h) (hHn g b h),λl b h=>⟨h,hp.block b (hR.ok.sf.tb l b h).1.1 (htn l b h)⟩,λb h=>⟨h,(hp.sim b h).1⟩,rfl⟩
 have hsz:=hp.size
 refine⟨⟨λb h=>by have:=hR.ok.fb b h;omega,hR.ok.gf,hR.ok.gn,λo b c h=>⟨by have:=(hR.ok.rb o b c h).1;omega,(hR.ok.rb o b c h).2⟩,hR.ok.inj,hp.os.trans hR.ok.os,hp.tape.trans hR.ok.tape,hp.output.trans hR.ok.output,by have:=hR.ok.size;omega,λb h hW=>?_,hR.ok.pin,hR.ok.ff,λb h h'=>(hR.ok.gc b h h').of_eq (hp.block b (hR.ok.fb b h) (hHn false b h)),?_⟩,hR.dom,λo x h=>?_,λk=>jX hk (hR.sl k),hR.dfr,hR.size,hR.td⟩
 .rw[hp.block b (by have:=hR.ok.size;omega) (λhz=>hW (hR.ok.sf.zb b hz).1.2.2)];exact hR.ok.block b h hW
 .refine⟨λl b h=>?_,hR.ok.sf.tt,λb h=>?_,λb h=>?_,hR.ok.sf.ze⟩
  .obtain⟨h1,h2,h3,h4⟩:=hR.ok.sf.tb l b h
   exact⟨⟨by omega,h1.2⟩,h2,h3,h4.of_eq (hp.block b h1.1 (htn l b h))⟩
  .obtain⟨h1,h2,h3,h4⟩:=hR.ok.sf.zc b h
   refine⟨⟨h1.1,by omega,h1.2.2⟩,h2,h3,?_⟩
   by_cases hb:E.Z b
   .exact(hp.sim b hb).2
   exact h4.of_eq (hp.block b h1.2.1 hb)
  refine(hR.ok.sf.zs b h).trans ?_
  by_cases hb:E.Z b
  .exact(hp.sim b hb).1
  exact .of_eq (hp.block b (hR.ok.sf.zc b h).1.2.1 hb)
 exact gE hk (λb c h'=>hp.block b (hR.ok.rb o b c h').1 (hrn o b c h')) (λ_ _ _ h=>h) (hR.obs o x h)
theorem AS {w:World} {b:Nat} {arr:Array Value} {ty':TypeId} {fz:Nat×Nat} {k:Nat} (h:w.heap[b]?=some (.cells arr ty' fz)):w.cell? ⟨b,k,none⟩=arr[k]?:=by
 simp[World.cell?,h]
theorem IH {P:Program} {t:TypeId} {b k:Nat} {vt:TypeId} {arr:Array Value} {u:Value} {w:World} {fz:Nat×Nat} [ht:TyN P t 1] (hu:u.cells= #[u]) (h1:u.oneCell'=true) (hh:w.heap[b]?=some (.cells arr vt fz)) (hf:fz=(0,0)\/arr.size<=fz.1) (hk:k<arr.size):
 (Instr.storeAt t (.pointer (some ⟨b,k,none⟩)) u).run P w= .ok () (w.setRow b (arr.setIfInBounds k u)):=by
 obtain⟨i,hi,hn⟩:=ht.n
 have hadd:(⟨b,k,none⟩:Addr).add 0=⟨b,k,none⟩:=by unfold Addr.add;split<;>simp_all
 have hcell:w.cell? ⟨b,k,none⟩=some arr[k]:=by simp[World.cell?,hh,hk]
 have hfro:w.frozen? ⟨b,k,none⟩=false:=by
  rcases hf with rfl|hf
  .simp[World.frozen?,hh]
  simp[World.frozen?,hh];intro;omega
 have hst:(store ((⟨b,k,none⟩:Addr).add 0) u).run P w= .ok () (w.setRow b (arr.setIfInBounds k u)):=by
  rw[hadd,run_store P w _ u _ h1,hcell]
  simp[hfro,setCell_eq_setRow w b k arr vt fz u hh]
 simp[Instr.storeAt,Instr.sureAddr,storeVar,eV hi,hn,hu,storeCells,hst]
theorem stz {t:TypeId} {e:List D} {j:Nat} {xd:D} {c:C} [ht:TyN P t 1] (hx:opT sl x= .v (.c (.zq e j))) (hy:opT sl y= .v (.c c)) (hc:e[j]?=some xd) (hl:yi xd c=true):AWO P N ⟨none,.store t x y,ty,ps,af,gd⟩ ⟨sl,ob,nx⟩ ⟨sl,ob,nx⟩:=by
 intro cx E a w hR
 have h1:=hR.op x;rw[hx] at h1
 have h2:=hR.op y;rw[hy] at h2
 obtain⟨b,k,hu,hb,hrs⟩:=h1
 obtain⟨u,hcell,hud⟩:=ME hrs hc
 have hsim:MM u (a.eval y)/\(a.eval y).cells= #[a.eval y]/\(a.eval y).oneCell'=true:=by
  cases xd with
  |i kd n=>
   cases c with
   |d g z=>
    cases z with
    |i kd' n'=>
     simp[yi] at hl;subst hl
     have h2:a.eval y= .int kd n':=by simpa [cvT,cvV,cvC,rdD] using h2
     rw[rsD] at hud
     obtain⟨m,rfl⟩:=hud
     rw[h2];exact⟨.inr (.inl ⟨_,_,_,rfl,rfl⟩),rfl,rfl⟩
    |_=>simp[yi] at hl
   |_=>simp[yi] at hl
  |b n=>
   cases c with
   |d g z=>
    cases z with
    |b n'=>
     have h2:a.eval y= .bool n':=by simpa [cvT,cvV,cvC,rdD] using h2
     rw[rsD] at hud
     obtain⟨m,rfl⟩:=hud
     rw[h2];exact⟨.inr (.inr (.inl ⟨_,_,rfl,rfl⟩)),rfl,rfl⟩
    |_=>simp[yi] at hl
   |_=>simp[yi] at hl
  |str n=>
   cases c with
   |d g z=>
    cases z with
    |str n'=>
     have h2:a.eval y= .string n':=by simpa [cvT,cvV,cvC,rdD] using h2
     rw[rsD] at hud
     obtain⟨m,rfl⟩:=hud
     rw[h2];exact⟨.inr (.inr (.inr ⟨_,_,rfl,rfl⟩)),rfl,rfl⟩
    |_=>simp[yi] at hl
   |_=>simp[yi] at hl
  |l xs=>cases c<;>simp[yi] at hl
  |k A n c'=>cases c<;>simp[yi] at hl
 obtain⟨hs1,hs2,hs3⟩:=hsim
 obtain⟨arr,vt,fz,hh,hfz⟩:=(hR.ok.sf.zb b hb).2.2.2
 have hlt:k+j<arr.size:=by
  rw[AS hh] at hcell
  rcases Zb (k+j) arr.size with h|h
  .exact h
  rw[Zd h] at hcell;cases hcell
 have hrun:=IH (P:=P) (t:=t) (b:=b) (k:=k+j) (u:=a.eval y) (w:=w) hs2 hs3 hh hfz hlt
 unfold Oper.wp
 simp only[execOp,hu,Sem.run_bind,hrun,Result.andThen_ok,Sem.run_pure,Oper.upon_skip,Act.put]
 refine⟨E,TQ hR ⟨rfl,rfl,rfl,by simp,λk' _ hk'=>dF _ _ _ _ (λe=>hk' (e▸hb)),λb' hb'=>?_⟩⟩
 by_cases hbb:b'=b
 .subst hbb
  have hsr:(w.setRow b' (arr.setIfInBounds (k+j) (a.eval y))).heap[b']?=some (.cells (arr.setIfInBounds (k+j) (a.eval y)) vt fz):=setRow_heap w b' arr _ vt fz hh
  refine⟨λi v hv=>?_,_,_,_,hsr,by simpa using hfz⟩
  rw[AS hh] at hv hcell
  rw[AS hsr]
  by_cases hi:i=k+j
  .subst hi
   rw[hcell] at hv;cases hv
   exact⟨a.eval y,by simp[hlt],hs1⟩
  refine⟨v,?_,.inl rfl⟩
  rw[Array.getElem?_setIfInBounds_ne (λe=>hi e.symm)]
  exact hv
 exact⟨.of_eq (dF _ _ _ _ hbb),(hR.ok.sf.zb b' hb').2.2.2.of_eq (dF _ _ _ _ hbb)⟩
def C.hasR (l:Nat):C->Bool
 | .r k _=>YN k l
 |_=>false
def JT (l:Nat):List C->Bool
 |[]=>false
 |c::cs=>c.hasR l||JT l cs
def V.hasR (l:Nat):V->Bool
 | .c x=>x.hasR l
 | .agg xs=>JT l xs
def HN (l:Nat):List V->Bool
 |[]=>false
 |v::vs=>v.hasR l||HN l vs
def T.hasR (l:Nat):T->Bool
 | .v x=>x.hasR l
 | .tup xs=>HN l xs
 | .any=>false
def BF (l:Nat):List (Nat×T)->Option (List (Nat×T))
 |[]=>some []
 |(k,t)::r=>match BF l r with
  |some r'=>match t.hasR l with
   |true=>some ((k,.any)::r')
   |false=>some ((k,t)::r')
  |none=>none
theorem JG {l:Nat}:∀{sl sl':List (Nat×T)},BF l sl=some sl'->∀k,gt sl' k= .any\/(gt sl' k=gt sl k/\(gt sl k).hasR l=false)
 |[],sl',h,k=>by simp[BF] at h;subst h;exact .inl rfl
 |(j,t)::r,sl',h,k=>by
  simp only[BF] at h
  split at h
  .rename_i r' h1
   have ih:=JG h1 k
   split at h
   .simp at h;subst h
    by_cases hj:j=k
    .subst hj;left;rw[d9]
    rw[da _ _ hj,da _ _ hj];exact ih
   rename_i ht
   simp at h;subst h
   by_cases hj:j=k
   .subst hj;right;rw[d9,d9];exact⟨rfl,ht⟩
   rw[da _ _ hj,da _ _ hj];exact ih
  cases h
structure KeepsR (l:Nat) (E:Env) (w:World) (E':Env) (w':World):Prop where
 r:∀o x,E.r o=some x->E'.r o=some x
 H:∀g b,E.H g b->E'.H g b
 heap:∀g b,E.H g b->w'.heap[b]?=w.heap[b]?
 T:∀k b,k≠l->E.T k b->E'.T k b/\w'.heap[b]?=w.heap[b]?
 Z:∀b,E.Z b->E'.Z b/\qS w w' b
 n:E'.n=E.n
end
open Go.RowKit
def xM (ns:List Int):ByteArray:=ns.foldl (λr n=>r.push (UInt8.ofNat n.toNat)) ByteArray.empty
section
variable {P:Program} {N:Nat} {d:Tmp} {x y:Operand} {ty:TypeId} {ps:String} {af:Array Edge} {gd:Option (Nat×Bool)} {sl:List (Nat×T)} {ob:List (Nat×Ob)} {nx:Nat}
theorem OR {w:World} {F:Nat->Prop} {b:Nat}:∀{xs:List Int} {k:Nat},rdLL w F (xs.map eU8) b k->∀(j:Nat) (u:Value),(xs.map (Value.int .u8))[j]?=some u->w.cell? ⟨b,k+j,none⟩=some u
 |[],k,_,j,u,h=>by simp at h
 |n::xs,k,h,j,u,hj=>by
  rw[Ze,rdLL] at h
  obtain⟨h1,h2⟩:=h
  simp only[eU8,rdL,rdD] at h1
  obtain⟨⟨v,hc,rfl⟩,_⟩:=h1
  cases j with
  |zero=>simp at hj;subst hj;simpa using hc
  |succ j=>
   have:=OR h2 j u (by simpa using hj)
   rwa [show k+(eU8 n).length+j=k+(j+1) from by simp[eU8];omega] at this
theorem V5 {w:World} {F:Nat->Prop} {A:Option Addr} {xs:List Int} {c:Nat} (h:xs=[]\/∃b off,A=some ⟨b,off,none⟩/\rdLL w F (xs.map eU8) b off):(Conv.bytesToString (.slice A xs.length c)).run P w= .ok (.string (xM xs)) w:=by
 cases A with
 |none=>
  rcases h with rfl|⟨b,off,h,_⟩
  .rfl
  cases h
 |some a=>
  refine run_bytesToString w a xs.length c xs ?_
  rcases h with rfl|⟨b,off,h,hr⟩
  .rfl
  cases h
  have:=kD (P:=P) (b:=b) (k:=off) (w:=w) (xs.map (Value.int .u8)) 0 #[] (λj u hj=>by rw[Y7];exact OR hr j u hj)
  simpa [loadCells] using this
theorem n_bts {t t' e:TypeId} {sz by_:Nat} {g:Bool} {xs:List Int} [hs:TySl P t e sz by_] [he:TyU P e (.int .u8)] [hd:TyU P t' .string]:
 AWN P ⟨some d,.convert t t' x,ty,ps,af,gd⟩ [(x,.v (.c (.d g (.l (xs.map eU8)))))] [] (tS (xM xs)) []:=
 ci λE ac w hn _=>by
  have h:=hn x _ (.head _)
  simp only[cvT,cvV,cvC,rdD] at h
  obtain⟨A,c,hu,_,h⟩:=h
  rw[Y3] at hu
  refine⟨.string (xM xs),?_,by simp[cvT,cvV,cvC,rdD]⟩
  have:=V5 (P:=P) (w:=w) (F:=E.H g) (A:=A) (xs:=xs) (c:=c) (by
   rcases h with h|⟨b,off,h1,_,h2⟩
   .left;simpa using h
   right;exact⟨b,off,h1,h2⟩)
  simp only[execOp,hu,Sem.run_bind,run_convert_bytes_string w t t' e A xs.length c hs.u he.h hd.h,this,Result.andThen_ok,Sem.run_pure]
theorem bt1 {t t' e:TypeId} {sz by_:Nat} {g:Bool} {xs:List Int} [TySl P t e sz by_] [TyU P e (.int .u8)] [TyU P t' .string] (hx:opT sl x= .v (.c (.d g (.l (xs.map eU8))))) (hN:nlt d N=true):
 NS0 P N ⟨some d,.convert t t' x,ty,ps,af,gd⟩ sl ob nx d (tS (xM xs)) ⟨d,[(x,.v (.c (.d g (.l (xs.map eU8)))))],[],tS (xM xs),[]⟩:=dx (st:=⟨sl,ob,nx⟩) n_bts rfl hN ⟨hx,trivial⟩ trivial rfl
end
open Go.RowKit
structure Pg (up:List (Nat×Ob)) (E:Env) (w:World) (E':Env) (w':World):Prop where
 r:∀o x,E.r o=some x->E'.r o=some x
 F:∀b,E.F b->E'.F b
 G:∀b,E.G b->E'.G b
 F':∀b,E'.F b->E.F b\/w.heap.size<=b
 heap:∀b,b<w.heap.size->(∀l ob c,(l,ob)∈up->E.r l≠some (b,c))->w'.heap[b]?=w.heap[b]?
 own:∀l ob b c,(l,ob)∈up->E.r l=some (b,c)->¬E.F b
 T:E'.T=E.T
 Z:E'.Z=E.Z
 n:E'.n=E.n
theorem Pg.of_ext {E E':Env} {w w':World} (x:Ext E w E' w'):Pg [] E w E' w':=⟨x.r,x.F,x.G,x.F',λb h _=>x.heap b h,λ_ _ _ _ h=>(by cases h),x.T,x.Z,x.n⟩
theorem kt.of_extW {cx:Cx} {E E':Env} {w w':World} {up:List (Nat×Ob)} (ok:c8 cx E w) (x:Pg up E w E' w'):kt E w E' w':=by
 have hF:∀b,E.F b->w'.heap[b]?=w.heap[b]?:=λb h=>x.heap b (ok.fb b h) (λl ob c hm hr=>x.own l ob b c hm hr h)
 refine⟨x.r,λg b h=>by cases g;exact x.F b h;exact x.G b h,λg b h=>by cases g;exact hF b h;exact hF b (ok.gf b h),λl b h=>⟨by rw[x.T];exact h,x.heap b (ok.sf.tb l b h).1.1 (λl' ob c _ hr=>(ok.sf.tb l b h).2.2.1 l' c hr)⟩,
  λb h=>⟨by rw[x.Z];exact h,.of_eq (x.heap b (ok.sf.zb b h).1.2.1 (λl' ob c _ hr=>(ok.sf.zb b h).2.2.1 l' c hr))⟩,x.n⟩
def AWX (P:Program) (o:Oper) (needs:List (Operand×T)) (nob:List (Nat×Ob)) (out:T) (nw up:List (Nat×Ob)):Prop:=
 ∀(cx:Cx) (E:Env) (a:Act) (w:World),c8 cx E w->(∀x t,(x,t)∈needs->cvT E w t (a.eval x))->(∀l ob,(l,ob)∈nob->cP E w l ob)->
  (∀l ob,(l,ob)∈nw->E.r l=none/\rsv l=false)->
  o.wp P a w (λa' w'=>∃v E',a'=a.put o.dst v/\c8 cx E' w'/\Pg up E w E' w'/\cvT E' w' out v/\(∀l ob,(l,ob)∈nw->cP E' w' l ob)/\(∀l ob,(l,ob)∈up->cP E' w' l ob)/\
   (∀l x,E'.r l=some x->E.r l=some x\/∃ob,(l,ob)∈nw)) (λ_ _ _=>False)
theorem Dj {P:Program} {o:Oper} {needs:List (Operand×T)} {nob:List (Nat×Ob)} {out:T} {nw:List (Nat×Ob)} (h:AWN P o needs nob out nw):AWX P o needs nob out nw []:=by
 intro cx E a w ok hn hb hf
 refine Oper.wp_mono ?_ (h cx E a w ok hn hb hf)
 rintro a' w' ⟨v,E',h1,h2,h3,h4,h5,h6⟩
 exact⟨v,E',h1,h2,.of_ext h3,h4,h5,(λ_ _ h=>by cases h),h6⟩
theorem Pm {P:Program} {d:Tmp} {ty:TypeId} {ps:String} {af:Array Edge} {gd:Option (Nat×Bool)} {f:FuncId} {args:List Operand} {tys:Array TypeId} {nx o:Nat} {x0 y:Ob} {ts ts':List T} {eqs:List (Nat×Nat)} {res:List RV} {out:T} {nw:List (Nat×Ob)} {n:Nat}
 (hF:FnW P f x0.loc ts' y res) (hlen:ts.length=args.length) (hfx:x0.free=true) (hfy:y.free=true) (ha:BM [] o ts=some (ts',eqs)) (he:Eqs eqs) (hi:Fo nx res=some (out,nw,n)):
 AWX P ⟨some d,.call ⟨.value (.func f),args.toArray,tys⟩,ty,ps,af,gd⟩ (args.zip ts) [(o,x0)] out nw [(o,y)]:=by
 intro cx E a w ok hn hb hfr
 obtain⟨nob,hnob⟩:∃nob:List (Nat×Ob),nob=[]:=⟨_,rfl⟩
 rw[<-hnob] at ha
 have hob:∀l x,go nob l=some x->cP E w l x:=λl x h=>by subst hnob;cases h
 have hx0:=hb o x0 (by simp)
 obtain⟨b,c0,hr,hbF⟩:∃b c0,E.r o=some (b,c0)/\¬E.F b:=by
  cases x0 with
  |rown ty sz els g=>exact absurd hfx ZT
  |abs l y=>exact absurd hfx ZT
  |var t cs=>obtain⟨b,c,arr,h1,h2,h3,h4⟩:=hx0;exact⟨b,c,h1,h4⟩
  |row t sz els g m=>
   obtain⟨b,c,arr,h1,h2,h3,h4,h5,h6,h7,h8,h9⟩:=hx0
   have hm:m=true:=hfx
   subst hm
   exact⟨b,c,h1,h8 rfl⟩
 have hbC:¬lR E nob b:=by
  rintro(h|⟨l,x,c,h1,h2⟩)
  .exact hbF h
  subst hnob;cases h1
 have hFb:∀b,lR E nob b->b<w.heap.size:=by
  rintro b (h|⟨l,x,c,h1,h2⟩)
  .exact ok.fb b h
  exact(ok.rb l b c h2).1
 have hbs0:=(ok.rb o b c0 hr).1
 have hA:=Eb (a:=a) ok hob hr ha he hlen hn
 have hX:cP (E0 b c0 (lR E nob)) w 200 x0.loc:=by
  have hl:=GG ok hfx hx0
  have hnoG:∀E2:Env,(∀k,E.F k->E2.F k)->E2.r 200=some (b,c0)->¬E2.F b->cP E2 w 200 x0.loc:=by
   intro E2 h1 h2 h3
   cases x0 with
   |rown ty sz els g=>exact absurd hfx ZT
   |abs l y=>exact absurd hfx ZT
   |var t cs=>
    obtain⟨b',c',arr,k1,k2,k3,k4⟩:=hl
    rw[hr] at k1;cases k1
    refine⟨b,c0,arr,h2,k2,?_,h3⟩
    have key:∀(cs:List C) (us:List Value),cs.all C.free=true->CV E w (cs.map C.loc) us->CV E2 w (cs.map C.loc) us:=by
     intro cs
     induction cs with
     |nil=>
      intro us _ h
      cases us with
      |nil=>trivial
      |cons _ _=>exact h.elim
     |cons c cs ih=>
      intro us hf h
      simp only[Zt,v0] at hf
      cases us with
      |nil=>exact h.elim
      |cons u us=>
       refine⟨?_,ih us hf.2 h.2⟩
       have h5:=h.1
       cases c with
       |d g y=>exact cF (λ_ _=>rfl) h1 _ _ h5
       |nil=>exact h5
       |fn f=>exact h5
       |any=>trivial
       |_=>simp[C.free] at hf
    exact key cs _ hfx k3
   |row t sz els g m=>
    obtain⟨b',c',arr,k1,k2,k3,k4,k5,k6,k7,k8,k9⟩:=hl
    rw[hr] at k1;cases k1
    have hm:m=true:=hfx
    subst hm
    exact⟨b,c0,arr,h2,k2,k3,k4,k5,k6,ct (λ_ _=>rfl) h1 rfl _ _ k7,λ_=>h3,λh=>by cases h⟩
  exact hnoG _ (λk hk=>.inl hk) (by simp[E0]) hbC
 have hc:=hF.calls (lR E nob) w (args.map a.eval).toArray b c0 hFb hbs0 ok.tabs (ok.ntab hr) hX (by simpa using hA)
 have hent:=hF.enters (args.map a.eval).toArray w
 unfold Oper.wp
 have hrun:(execOp a.eval ⟨some d,.call ⟨.value (.func f),args.toArray,tys⟩,ty,ps,af,gd⟩).run P w= .ok (.enter f (args.map a.eval).toArray) w:=by
  simp only[execOp,resolve,Act.eval,Deferred.ofValue,Sem.run_bind,Sem.run_pure,Result.andThen_ok,invoke]
  simpa using hent
 rw[hrun,Oper.upon_enter]
 refine hc.mono ?_
 rintro e w' ⟨v,G,bs,rfl,hpast,hG2,hres,hnd,hY⟩
 have hbs:=Il hres
 have hlab:∀l,nx<=l->l<nx+bs.length->E.r l=none/\rsv l=false:=by
  have himp:=xu (E:=⟨λo=>bs[o-nx]?,G,G,λ_ _=>False,λ_=>False,λ_=>False⟩) (λ_ h=>h) (λb _ h=>h) hi hres (λi p hi=>by simpa using hi)
  intro l h1 h2
  obtain⟨x,hx⟩:=himp.2.2.2 l h1 (by rw[himp.2.1];exact h2)
  exact hfr l x hx
 let E':Env:=⟨λl=>if nx<=l/\l<nx+bs.length then bs[l-nx]? else E.r l,λk=>E.F k\/G k,λk=>E.G k\/G k,E.T,E.Z,E.n⟩
 have hsz:=hpast.size
 have hws:=ok.size
 have hold:∀l p,E.r l=some p->E'.r l=some p:=λl p h=>by
  show(if nx<=l/\l<nx+bs.length then bs[l-nx]? else E.r l)=some p
  rw[if_neg]
  .exact h
  rintro⟨h1,h2⟩;have:=(hlab l h1 h2).1;rw[this] at h;cases h
 have hnew:∀l b c,E'.r l=some (b,c)->(nx<=l/\l<nx+bs.length/\bs[l-nx]?=some (b,c))\/(E.r l=some (b,c)):=by
  intro l b c h
  have h:(if nx<=l/\l<nx+bs.length then bs[l-nx]? else E.r l)=some (b,c):=h
  split at h
  .rename_i hh;exact .inl ⟨hh.1,hh.2,h⟩
  exact .inr h
 have hheap:∀k,k<w.heap.size->k≠b->w'.heap[k]?=w.heap[k]?:=λk hk hne=>hpast.block k hk hne
 have hHb:∀g k,E.H g k->k≠b/\k<w.heap.size:=λg k hk=>⟨λe=>by subst e;cases g;exact hbF hk;exact hbF (ok.gf _ hk),ok.hb hk⟩
 have ok':c8 cx E' w':=by
  refine⟨λk h=>?_,λk h=>?_,λk h=>?_,λl k c h=>?_,λl l' k c c' h h'=>?_,by rw[hpast.os];exact ok.os,by rw[hpast.tape];exact ok.tape,by rw[hpast.output];exact ok.output,by omega,λk h hW=>?_,λl p hv h=>?_,λk h=>?_,
   λk h h'=>h.elim (λh=>(ok.gc k h h').of_eq (hheap k (hHb false k h).2 (hHb false k h).1)) (λh=>(hG2 k h).2.2),
   ok.sf.turn hr rfl rfl (λk h=>h.elim .inl (λh=>.inr (hG2 k h).1)) (λl k c h=>by
    rcases hnew l k c h with⟨_,_,h⟩|h
    .exact .inr (hbs _ (YS h)).1
    exact .inl ⟨l,c,h⟩) hsz hheap⟩
  .rcases h with h|h
   .have:=ok.fb k h;omega
   exact(hG2 k h).2.1
  .rcases h with h|h
   .exact .inl (ok.gf k h)
   exact .inr h
  .rcases h with h|h
   .exact ok.gn k h
   have:=hG2 k h;omega
  .rcases hnew l k c h with⟨_,_,h⟩|h
   .have:=hbs _ (YS h);exact⟨this.2,.inl (by have:=this.1;simp at this;omega)⟩
   have:=ok.rb l k c h;exact⟨by omega,this.2⟩
  .rcases hnew l k c h with⟨h1,h2,h3⟩|h3<;>rcases hnew l' k c' h' with⟨k1,k2,k3⟩|k3
   .have hi:l-nx<bs.length:=by omega
    have hj:l'-nx<bs.length:=by omega
    rcases aad (l-nx) (l'-nx) with hlt|heq|hlt
    .exfalso
     have:=Zq.1 hnd (l-nx) (l'-nx) (by simpa using hi) (by simpa using hj) hlt
     rw[YO hi] at h3;rw[YO hj] at k3
     simp at h3 k3;simp[h3,k3] at this
    .omega
    exfalso
    have:=Zq.1 hnd (l'-nx) (l-nx) (by simpa using hj) (by simpa using hi) hlt
    rw[YO hi] at h3;rw[YO hj] at k3
    simp at h3 k3;simp[h3,k3] at this
   .have h5:=hbs _ (YS h3);have h6:=ok.rb l' k c' k3;simp at h5;omega
   .have h5:=hbs _ (YS k3);have h6:=ok.rb l k c h3;simp at h5;omega
   exact ok.inj l l' k c c' h3 k3
  .have hkb:k≠b:=λe=>by
    subst e
    rcases(ok.rb o k c0 hr).2 with h'|h'
    .omega
    exact hW h'.1
   rw[hheap k oaa hkb];exact ok.block k h hW
  .rcases hnew l p.1 p.2 h with⟨h1,h2,_⟩|h
   .rw[sQ (hlab l h1 h2).2] at hv;cases hv
   exact ok.pin l p hv h
  rcases h with h|h
  .exact ok.ff k h
  exact .inr (by have:=hG2 k h;omega)
 have himp:=xu (E:=E') (G:=G) (base:=w.heap.size) (λb h=>.inr h) (λb hb hng hF=>by
  rcases hF with h|h
  .have:=ok.fb b h;omega
  exact hng h) hi hres (λi p hi=>by
  have:i<bs.length:=(YP.1 hi).1
  show(if nx<=nx+i/\nx+i<nx+bs.length then bs[nx+i-nx]? else E.r (nx+i))=some p
  rw[if_pos oaa];simpa using hi)
 refine⟨v,E',rfl,ok',⟨hold,λk h=>.inl h,λk h=>.inl h,λk h=>h.elim .inl (λh=>.inr (hG2 k h).1),λk hk hne=>hheap k hk (λe=>by subst e;exact hne o y c0 (by simp) hr),λl ob k c hm hl=>?_,rfl,rfl,rfl⟩,himp.1,λl x hm=>(himp.2.2.1 l x hm).1,λl x hm=>?_,λl p h=>?_⟩
 .simp at hm;obtain⟨rfl,rfl⟩:=hm;rw[hr] at hl;cases hl;exact hbF
 .simp at hm;obtain⟨rfl,rfl⟩:=hm
  refine yV hfy (λk c h=>?_) (λg k h=>?_) (λ_ _ _=>rfl) (λ_ _ _=>rfl) (λk c h hn hh=>?_) hY
  .simp[E1] at h;rw[<-h.1,<-h.2];exact hold _ _ hr
  .cases g with
   |false=>
    rcases h with h|h
    .rcases h with h|⟨l,x,c,h1,h2⟩
     .exact .inl h
     subst hnob;cases h1
    exact .inr h
   |true=>exact .inr h
  simp[E1] at h;obtain⟨rfl,rfl⟩:=h
  rcases hh with hh|hh
  .exact hbF hh
  have:=hG2 _ hh;omega
 rcases hnew l p.1 p.2 h with⟨h1,h2,_⟩|h
 .obtain⟨x,hx⟩:=himp.2.2.2 l h1 (by rw[himp.2.1];exact h2);exact .inr ⟨x,hx⟩
 exact .inl h
open Go.RowKit
def Ob.hasO (o:Nat):Ob->Bool
 | .var _ cs=>BH o cs
 | .row _ _ _ _ _=>false
 | .rown _ _ _ _=>false
 | .abs _ _=>false
structure rZ (up:List (Nat×Ob)) (kl:Option Nat) (E:Env) (w:World) (E':Env) (w':World):Prop where
 r:∀o x,kl≠some o->E.r o=some x->E'.r o=some x
 F:∀b,E.F b->E'.F b
 G:∀b,E.G b->E'.G b
 F':∀b,E'.F b->E.F b\/w.heap.size<=b\/∀l c,kl≠some l->E.r l≠some (b,c)
 heap:∀b,b<w.heap.size->(∀l ob c,(l,ob)∈up->E.r l≠some (b,c))->(∀l c,kl=some l->E.r l≠some (b,c))->w'.heap[b]?=w.heap[b]?
 own:∀l ob b c,(l,ob)∈up->E.r l=some (b,c)->¬E.F b
 ownk:∀l b c,kl=some l->E.r l=some (b,c)->¬E.F b
 T:E'.T=E.T
 Z:E'.Z=E.Z
 n:E'.n=E.n
theorem rZ.of_extW {E E':Env} {w w':World} {up:List (Nat×Ob)} (x:Pg up E w E' w'):rZ up none E w E' w':=
 ⟨λo y _ h=>x.r o y h,x.F,x.G,(λb h=>(x.F' b h).elim .inl (λh=>.inr (.inl h))),λb h h' _=>x.heap b h h',x.own,(λ_ _ _ h=>by cases h),x.T,x.Z,x.n⟩
section
variable {cx:Cx} {E E':Env} {w w':World} {up:List (Nat×Ob)} {kl:Option Nat}
theorem rZ.hF (ok:c8 cx E w) (x:rZ up kl E w E' w') (b:Nat) (h:E.F b):w'.heap[b]?=w.heap[b]?:=
 x.heap b (ok.fb b h) (λl ob c hm hr=>x.own l ob b c hm hr h) (λl c hl hr=>x.ownk l b c hl hr h)
theorem rZ.hH (ok:c8 cx E w) (x:rZ up kl E w E' w') (g:Bool) (b:Nat) (h:E.H g b):w'.heap[b]?=w.heap[b]?:=by
 cases g
 .exact x.hF ok b h
 exact x.hF ok b (ok.gf b h)
theorem rZ.H (x:rZ up kl E w E' w') (g:Bool) (b:Nat) (h:E.H g b):E'.H g b:=by
 cases g
 .exact x.F b h
 exact x.G b h
theorem rZ.hT (ok:c8 cx E w) (x:rZ up kl E w E' w') (l b:Nat) (h:E.T l b):E'.T l b/\w'.heap[b]?=w.heap[b]?:=
 ⟨by rw[x.T];exact h,x.heap b (ok.sf.tb l b h).1.1 (λl' ob c _ hr=>(ok.sf.tb l b h).2.2.1 l' c hr) (λl' c _ hr=>(ok.sf.tb l b h).2.2.1 l' c hr)⟩
theorem rZ.hZ (ok:c8 cx E w) (x:rZ up kl E w E' w') (b:Nat) (h:E.Z b):E'.Z b/\qS w w' b:=
 ⟨by rw[x.Z];exact h,.of_eq (x.heap b (ok.sf.zb b h).1.2.1 (λl' ob c _ hr=>(ok.sf.zb b h).2.2.1 l' c hr) (λl' c _ hr=>(ok.sf.zb b h).2.2.1 l' c hr))⟩
theorem rZ.keeps (ok:c8 cx E w) (x:rZ up none E w E' w'):kt E w E' w':=⟨λo y h=>x.r o y (by simp) h,x.H,x.hH ok,x.hT ok,x.hZ ok,x.n⟩
theorem rZ.but {o:Nat} (ok:c8 cx E w) (x:rZ up (some o) E w E' w'):mU o E w E' w':=⟨λl y hl h=>x.r l y (by simpa using Ne.symm hl) h,x.H,x.hH ok,x.hT ok,x.hZ ok,λl _=>by rw[x.n]⟩
theorem Dq (ok:c8 cx E w) (x:rZ up kl E w E' w') {t:T} {u:Value} (hf:∀o,kl=some o->t.has o=false) (h:cvT E w t u):cvT E' w' t u:=by
 cases kl with
 |none=>exact jX (x.keeps ok) h
 |some o=>exact Hz (x.but ok) (hf o rfl) h
theorem UR (ok:c8 cx E w) (x:rZ up kl E w E' w') {cs:List C} {us:List Value} (hf:∀o,kl=some o->BH o cs=false) (h:CV E w cs us):CV E' w' cs us:=by
 cases kl with
 |none=>exact qP (x.keeps ok) h
 |some o=>exact LA (x.but ok) (hf o rfl) h
theorem MA (ok:c8 cx E w) (x:rZ up kl E w E' w') {o:Nat} {ob:Ob} (hno:∀ob',(o,ob')∉up) (hk:kl≠some o) (hh:∀d,kl=some d->ob.hasO d=false) (h:cP E w o ob):cP E' w' o ob:=by
 have hb:∀b c,E.r o=some (b,c)->w'.heap[b]?=w.heap[b]?:=λb c hr=>
  x.heap b (ok.rb o b c hr).1 (λl ob' c' hm hr'=>by have:=ok.inj _ _ _ _ _ hr hr';subst this;exact hno _ hm) (λl c' hl hr'=>by have:=ok.inj _ _ _ _ _ hr hr';subst this;exact hk hl)
 have hF:∀b c,E.r o=some (b,c)->¬E.F b->¬E'.F b:=λb c hr hn hF=>(x.F' b hF).elim hn (λh=>h.elim (λhb=>by have:=(ok.rb o b c hr).1;omega) (λhb=>hb o c hk hr))
 cases ob with
 |var ty cs=>
  obtain⟨b,c,arr,hr,hh',hc,hf⟩:=h
  exact⟨b,c,arr,x.r _ _ hk hr,(hb b c hr).trans hh',UR ok x hh hc,hF b c hr hf⟩
 |row ty sz els g m=>
  obtain⟨b,c,arr,hr,hh',h1,h2,h3,h4,h5,h6,h7⟩:=h
  exact⟨b,c,arr,x.r _ _ hk hr,(hb b c hr).trans hh',h1,h2,h3,h4,ct (x.hH ok g) (x.H g) (hb b c hr) _ _ h5,λhm=>hF b c hr (h6 hm),λhm=>⟨x.H false b (h7 hm).1,λhg=>x.H true b ((h7 hm).2 hg)⟩⟩
 |rown ty sz els g=>
  rcases h with⟨h0,h1⟩|⟨h0,b,c,arr,hr,hh',h1,h2,h3,h4,h5,h6⟩
  .exact .inl ⟨by rw[x.n];exact h0,h1⟩
  exact .inr ⟨by rw[x.n];exact h0,b,c,arr,x.r _ _ hk hr,(hb b c hr).trans hh',h1,h2,h3,h4,ct (x.hH ok g) (x.H g) (hb b c hr) _ _ h5,hF b c hr h6⟩
 |abs l y=>
  rcases h with⟨h0,h1⟩|⟨h0,b,c,hr,h1,h2⟩
  .exact .inl ⟨by rw[x.n];exact h0,h1⟩
  exact .inr ⟨by rw[x.n];exact h0,b,c,x.r _ _ hk hr,y.st _ _ _ _ _ _ h1 (λk hk=>(x.hT ok l k hk).1) (hb b c hr) (λk hk=>(x.hT ok l k hk).2),hF b c hr h2⟩
end
def AWK (P:Program) (o:Oper) (needs:List (Operand×T)) (nob:List (Nat×Ob)) (out:T) (nw up:List (Nat×Ob)) (kl:Option Nat):Prop:=
 ∀(cx:Cx) (E:Env) (a:Act) (w:World),c8 cx E w->(∀x t,(x,t)∈needs->cvT E w t (a.eval x))->(∀l ob,(l,ob)∈nob->cP E w l ob)->
  (∀l ob,(l,ob)∈nw->E.r l=none/\rsv l=false)->
  o.wp P a w (λa' w'=>∃v E',a'=a.put o.dst v/\c8 cx E' w'/\rZ up kl E w E' w'/\cvT E' w' out v/\(∀l ob,(l,ob)∈nw->cP E' w' l ob)/\(∀l ob,(l,ob)∈up->cP E' w' l ob)/\
   (∀l x,E'.r l=some x->E.r l=some x\/∃ob,(l,ob)∈nw)) (λ_ _ _=>False)
theorem uH {P:Program} {o:Oper} {needs:List (Operand×T)} {nob:List (Nat×Ob)} {out:T} {nw up:List (Nat×Ob)} (h:AWX P o needs nob out nw up):AWK P o needs nob out nw up none:=by
 intro cx E a w ok hn hb hf
 refine Oper.wp_mono ?_ (h cx E a w ok hn hb hf)
 rintro a' w' ⟨v,E',h1,h2,h3,h4,h5,h6,h7⟩
 exact⟨v,E',h1,h2,.of_extW h3,h4,h5,h6,h7⟩
def U0 (d:Nat) (ob0:List (Nat×Ob)) (k:Nat):Bool:=YN k d||match go ob0 k with
 |some x=>x.hasO d
 |none=>false
def DA (d:Nat) (ob0:List (Nat×Ob)):List (Nat×Ob)->Option (List (Nat×Ob))
 |[]=>some []
 |(k,x)::r=>match DA d ob0 r,U0 d ob0 k with
  |some r',true=>some r'
  |some r',false=>some ((k,x)::r')
  |none,_=>none
def D6:List Nat->List (Nat×T)->List (Nat×Ob)->Option (List (Nat×T)×List (Nat×Ob))
 |[],sl,ob=>some (sl,ob)
 |d::ds,sl,ob=>match pB d sl,DA d ob ob with
  |some sl',some ob'=>D6 ds sl' ob'
  |_,_=>none
theorem DB {d:Nat} {ob0:List (Nat×Ob)}:∀{ob ob':List (Nat×Ob)},DA d ob0 ob=some ob'->∀{l:Nat} {x:Ob},go ob' l=some x->U0 d ob0 l=false/\go ob l=some x
 |[],ob',h,l,x,hl=>by simp[DA] at h;subst h;cases hl
 |(k,y)::r,ob',h,l,x,hl=>by
  simp only[DA] at h
  cases h1:DA d ob0 r with
  |none=>simp[h1] at h
  |some r'=>
   cases h2:U0 d ob0 k with
   |true=>
    simp[h1,h2] at h;subst h
    have ih:=DB h1 hl
    refine⟨ih.1,?_⟩
    rw[bH _ _ (λe=>by subst e;rw[h2] at ih;cases ih.1)];exact ih.2
   |false=>
    simp[h1,h2] at h;subst h
    by_cases hk:k=l
    .subst hk;rw[cz] at hl ⊢;cases hl;exact⟨h2,rfl⟩
    rw[bH _ _ hk] at hl ⊢;exact DB h1 hl
theorem Ka:∀{ds:List Nat} {sl sl':List (Nat×T)} {ob ob':List (Nat×Ob)},D6 ds sl ob=some (sl',ob')->
 (∀k,gt sl' k= .any\/(gt sl' k=gt sl k/\∀d∈ds,(gt sl k).has d=false))/\(∀l x,go ob' l=some x->go ob l=some x/\∀d∈ds,l≠d/\x.hasO d=false)
 |[],sl,sl',ob,ob',h=>by
  simp[D6] at h;obtain⟨rfl,rfl⟩:=h
  exact⟨λk=>.inr ⟨rfl,by simp⟩,λl x h=>⟨h,by simp⟩⟩
 |d::ds,sl,sl',ob,ob',h=>by
  simp only[D6] at h
  cases h1:pB d sl with
  |none=>simp[h1] at h
  |some sl1=>
   cases h2:DA d ob ob with
   |none=>simp[h1,h2] at h
   |some ob1=>
    simp only[h1,h2] at h
    obtain⟨i1,i2⟩:=Ka h
    refine⟨λk=>?_,λl x hl=>?_⟩
    .rcases i1 k with e|⟨e1,e2⟩
     .exact .inl e
     rcases wU h1 k with e|⟨e3,e4⟩
     .exact .inl (by rw[e1,e])
     refine .inr ⟨by rw[e1,e3],λd' hd'=>?_⟩
     rcases YU.1 hd' with rfl|hd'
     .exact e4
     rw[<-e3];exact e2 d' hd'
    obtain⟨e1,e2⟩:=i2 l x hl
    obtain⟨e3,e4⟩:=DB h2 e1
    refine⟨e4,λd' hd'=>?_⟩
    rcases YU.1 hd' with rfl|hd'
    .simp only[U0,e4,Y2] at e3
     exact⟨iY e3.1,e3.2⟩
    exact e2 d' hd'
open Go.RowKit
structure Inx where
 x:Inf
 up:List (Nat×Ob)
 kl:Option Nat
def RO (N:Nat) (o:Oper) (x:Inf):Prop:=(o.dst=some x.d/\x.d<N)\/(o.dst=none/\N<=x.d/\x.out= .any)
def NX (P:Program) (N:Nat) (o:Oper) (st st':St) (y:Inx):Prop:=
 AWK P o y.x.needs y.x.nob y.x.out y.x.nw y.up y.kl/\RO N o y.x/\Lk st.sl y.x.needs/\Lo st.ob y.x.nob/\Nw st.nx y.x.nw st'.nx/\st'=⟨(y.x.d,y.x.out)::st.sl,y.x.nw++(y.up++st.ob),st'.nx⟩
theorem Kp {P:Program} {N:Nat} {o:Oper} {st st':St} {x:Inf} (h:NS P N o st st' x):NX P N o st st' ⟨x,[],none⟩:=by
 obtain⟨h1,h2,h3,h4,h5,h6,h7⟩:=h
 exact⟨uH (Dj h1),.inl ⟨h2,h3⟩,h4,h5,h6,h7⟩
def DS2 (P:Program) (N:Nat) (ops:Array Oper) (o:Oper) (st st':St) (y:Inx):Prop:=
 (o.guard=none/\NX P N o st st' y)\/
 (∃j dj b z,o.guard=some (j,b)/\(ops[j]?).bind (·.dst)=some dj/\dj<N/\gt st.sl dj=tB b/\NX P N o st st' z/\y=⟨{z.x with needs:=(.tmp dj,tB b)::z.x.needs},z.up,z.kl⟩)\/
 (∃j dj b d,o.guard=some (j,b)/\(ops[j]?).bind (·.dst)=some dj/\dj<N/\noG b (gt st.sl dj)=true/\o.dst=some d/\d<N/\y=⟨⟨d,[(.tmp dj,gt st.sl dj)],[],.tup [],[]⟩,[],none⟩/\st'=⟨(d,.tup [])::st.sl,st.ob,st.nx⟩)
def obF (p:Nat->Bool):Nat->List Inx->List (Nat×Ob)->List (Nat×Ob)
 |_,[],acc=>acc
 |k,y::ys,acc=>obF p (k+1) ys (if p k then y.x.nw++(y.up++acc) else acc)
def pI (y:Inx) (l:Nat):Bool:=(y.x.nw.any λp=>YN p.1 l)||(y.up.any λp=>YN p.1 l)
theorem zv {A B:List (Nat×Ob)} {l:Nat} (h:(A.any λp=>YN p.1 l)=false):go (A++B) l=go B l:=by
 induction A with
 |nil=>rfl
 |cons p A ih=>
  simp only[aao,Y2] at h
  obtain⟨k,v⟩:=p
  rw[Zm,go,h.1]
  exact ih h.2
theorem xp {A B:List (Nat×Ob)} {l:Nat} (h:(A.any λp=>YN p.1 l)=true):go (A++B) l=go A l:=by
 induction A with
 |nil=>simp at h
 |cons p A ih=>
  obtain⟨k,v⟩:=p
  rw[Zm,go,go]
  cases hk:YN k l with
  |true=>rfl
  |false=>
   simp only[aao,hk,Zk] at h
   exact ih h
theorem qJ {p q:Nat->Bool} {l:Nat}:∀{ys:List Inx} {k:Nat} {A B:List (Nat×Ob)},go A l=go B l->(∀j y,ys[j]?=some y->pI y l=true->p (k+j)=q (k+j))->go (obF p k ys A) l=go (obF q k ys B) l
 |[],_,_,_,h,_=>h
 |y::ys,k,A,B,h,ht=>by
  simp only[obF]
  refine qJ ?_ (λj z hz hj=>by have:=ht (j+1) z (by simpa using hz) hj;rwa [show k+(j+1)=k+1+j from by omega] at this)
  cases hto:pI y l with
  |true=>
   have h0:=ht 0 y rfl hto
   rw[Zy] at h0
   rw[h0]
   split
   .by_cases hn:(y.x.nw.any λp=>YN p.1 l)=true
    .rw[xp hn,xp hn]
    rw[zv (A:=y.x.nw) (Z1.2 hn),zv (A:=y.x.nw) (Z1.2 hn)]
    have hu:(y.up.any λp=>YN p.1 l)=true:=by simp only[pI,Y6] at hto;exact hto.resolve_left hn
    rw[xp hu,xp hu]
   exact h
  |false=>
   simp only[pI,Y2] at hto
   have e:∀X:List (Nat×Ob),go (y.x.nw++(y.up++X)) l=go X l:=λX=>by rw[zv hto.1,zv hto.2]
   split<;>split<;>(try simp only[e])<;>exact h
theorem Ej {p:Nat->Bool} {y:Inx}:∀{ys:List Inx} {k:Nat} {A:List (Nat×Ob)},obF p k (ys++[y]) A=if p (k+ys.length) then y.x.nw++(y.up++obF p k ys A) else obF p k ys A
 |[],k,A=>by simp[obF]
 |z::ys,k,A=>by
  simp only[Zm,obF,YY]
  rw[Ej,show k+1+ys.length=k+(ys.length+1) from by omega]
theorem w4 {p:Nat->Bool}:∀{ys:List Inx} {k n:Nat} {A:List (Nat×Ob)},(∀j,p (k+j)=decide (j<n))->obF p k ys A=obF (λ_=>true) k (ys.take n) A
 |[],k,n,A,_=>by simp[obF]
 |y::ys,k,0,A,h=>by
  have h0:=h 0
  simp at h0
  simp only[obF,aan,h0]
  have:=w4 (p:=p) (ys:=ys) (k:=k+1) (n:=0) (A:=A) (λj=>by have:=h (j+1);simp at this ⊢;rwa [show k+(j+1)=k+1+j from by omega] at this)
  simpa [obF] using this
 |y::ys,k,n+1,A,h=>by
  have h0:=h 0
  simp at h0
  simp only[obF,Zs,h0,if_true]
  exact w4 (λj=>by have:=h (j+1);rw[show k+1+j=k+(j+1) from by omega,this];simp)
def obX (base:St) (ys:List Inx):List (Nat×Ob):=obF (λ_=>true) 0 ys base.ob
theorem Tp (base:St) (ys:List Inx) (y:Inx):obX base (ys++[y])=y.x.nw++(y.up++obX base ys):=by simp[obX,Ej]
def gP (ys:List Inx):List Inf:=ys.map (·.x)
def Q0 (P:Program) (N:Nat) (ops:Array Oper) (base:St) (pre:List Inx) (o:Oper) (y:Inx):Prop:=
 (∀z t,(z,t)∈y.x.needs->opT (uz base (gP pre)) z=t)/\(∀l ob,(l,ob)∈y.x.nob->go (obX base pre) l=some ob)/\RO N o y.x/\
 ((o.guard=none/\AWK P o y.x.needs y.x.nob y.x.out y.x.nw y.up y.kl)\/
  (∃j dj b ys,o.guard=some (j,b)/\(ops[j]?).bind (·.dst)=some dj/\dj<N/\y.x.needs=(.tmp dj,tB b)::ys/\AWK P o ys y.x.nob y.x.out y.x.nw y.up y.kl)\/
  (∃j dj b t,o.guard=some (j,b)/\(ops[j]?).bind (·.dst)=some dj/\dj<N/\y.x.needs=[(.tmp dj,t)]/\noG b t=true/\y.x.out= .tup []/\y.x.nw=[]/\y.up=[]/\y.kl=none))
theorem QK {P:Program} {N:Nat} {ops:Array Oper} {base st st1 st2:St} {ys:List Inx} {o:Oper} {y:Inx} (hds:DS2 P N ops o st st1 y) (hsame:xK st1 st2) (h1:∀k,gt st.sl k=gt (uz base (gP ys)) k) (h2:st.ob=obX base ys) (h3:fB base.nx (gP ys) st.nx):
 Q0 P N ops base ys o y/\(∀k,gt st2.sl k=gt (uz base (gP (ys++[y]))) k)/\st2.ob=obX base (ys++[y])/\fB base.nx (gP (ys++[y])) st2.nx:=by
 have hput:∀(out:T) (nw up:List (Nat×Ob)) (n:Nat),y.x.out=out->y.x.nw=nw->y.up=up->st1=⟨(y.x.d,out)::st.sl,nw++(up++st.ob),n⟩->Nw st.nx nw n->(∀k,gt st2.sl k=gt (uz base (gP (ys++[y]))) k)/\st2.ob=obX base (ys++[y])/\fB base.nx (gP (ys++[y])) st2.nx:=by
  rintro out nw up n rfl rfl rfl rfl hnw
  refine⟨λk=>?_,?_,?_⟩
  .rw[<-hsame.1 k];simp only[gP,ZU,Ze,ZV];rw[xG]
   by_cases hk:y.x.d=k
   .rw[hk,d9,d9]
   rw[da _ _ hk,da _ _ hk];exact h1 k
  .rw[<-hsame.2.1,Tp,h2]
  rw[<-hsame.2.2];simp only[gP,ZU,Ze,ZV];exact h3.snoc hnw
 rcases hds with⟨hg,k1,k2,k4,k5,k6,k7⟩|⟨j,dj,b,z,hg,hj,hdj,hb,⟨k1,k2,k4,k5,k6,k7⟩,rfl⟩|⟨j,dj,b,d,hg,hj,hdj,hb,hd,hN,rfl,rfl⟩
 .exact⟨⟨λz t hm=>by rw[<-rJ h1];exact Lk.mem k4 z t hm,λl' ob hm=>by rw[<-h2];exact Lo.mem k5 l' ob hm,k2,.inl ⟨hg,k1⟩⟩,hput _ _ _ _ rfl rfl rfl k7 k6⟩
 .refine⟨⟨λy' t hm=>?_,λl' ob hm=>by rw[<-h2];exact Lo.mem k5 l' ob hm,k2,.inr (.inl ⟨j,dj,b,z.x.needs,hg,hj,hdj,rfl,k1⟩)⟩,hput _ _ _ _ rfl rfl rfl k7 k6⟩
  rw[<-rJ h1]
  rcases YU.1 hm with e|hm
  .cases e;exact hb
  exact Lk.mem k4 y' t hm
 refine⟨⟨λy' t hm=>?_,by simp,.inl ⟨hd,hN⟩,.inr (.inr ⟨j,dj,b,_,hg,hj,hdj,rfl,hb,rfl,rfl,rfl,rfl⟩)⟩,hput (.tup []) [] [] st.nx rfl rfl rfl rfl rfl⟩
 rw[<-rJ h1]
 simp at hm;obtain⟨rfl,rfl⟩:=hm;rfl
def tC (y:Inx):List Nat:=y.x.nob.map (·.1)++(y.x.nw.map (·.1)++y.up.map (·.1))
def HG (ops:Array Oper):Bool:=
 (YQ ops.size).all λi=>match ops[i]? with
  |some o=>o.after.toList.all λe=>!Region.binds .any e||nlt e.on i
  |none=>false
def tF (l:List Nat) (n:Nat):Bool:=l.any λk=>YN k n
def at0 (seg:List Nat) (j:Nat):Nat:=seg.getD j 0
def y5 (y:Inx) (d:Nat):Bool:=(y.x.needs.any λp=>p.2.has d)||tF (tC y) d||(y.x.nob.any λp=>p.2.hasO d)
def XF (ops:Array Oper) (seg:List Nat) (ys:List Inx):Bool:=
 (YQ ys.length).all λj=>match ys[j]? with
  |some z=>match z.kl with
   |none=>true
   |some d=>(YQ ys.length).all λi=>match ys[i]? with
    |some y=>YN i j||!y5 y d||anc ops ops.size (at0 seg j) (at0 seg i)
    |none=>false
  |none=>false
def Am (ops:Array Oper) (done seg:List Nat) (ys:List Inx):Bool:=
 qX (gP ys)&&YN seg.length ys.length&&oB (seg++done)&&(seg.all λi=>nlt i ops.size)&&
 ((YQ ys.length).all λi=>match ys[i]? with
  |some y=>
   ((jb y.x.needs).all λk=>match tJ (gP ys) k with
    |none=>true
    |some j=>if nlt j i then anc ops ops.size (at0 seg i) (at0 seg j) else YN i j||anc ops ops.size (at0 seg j) (at0 seg i))&&
   ((tC y).all λl=>(YQ ys.length).all λj=>match ys[j]? with
    |some z=>!pI z l||(if nlt j i then anc ops ops.size (at0 seg i) (at0 seg j) else YN i j||anc ops ops.size (at0 seg j) (at0 seg i))
    |none=>false)
  |none=>false)&&
 ((YQ ops.size).all λj=>tF done j||tF seg j||seg.all λi=>anc ops ops.size j i)&&XF ops seg ys
def E8 (f:Nat->Nat) (ys:List Inx) (listed:Array Bool) (d:Nat):Prop:=∃j y,listed.getD (f j) false=true/\ys[j]?=some y/\y.kl=some d
structure Ph (N:Nat) (cx:Cx) (base:St) (f:Nat->Nat) (ys:List Inx) (listed:Array Bool) (a:Act) (w:World) (E:Env):Prop where
 ok:c8 cx E w
 dom:∀l x,E.r l=some x->l<base.nx\/∃j y ob,listed.getD (f j) false=true/\ys[j]?=some y/\(l,ob)∈y.x.nw
 obs:∀l ob,go (obF (λj=>listed.getD (f j) false) 0 ys base.ob) l=some ob->(∀d,E8 f ys listed d->l≠d/\ob.hasO d=false)->cP E w l ob
 out:∀j y,listed.getD (f j) false=true->ys[j]?=some y->(∀d,E8 f ys listed d->y.x.out.has d=false)->cvT E w y.x.out (a.tmps.getD y.x.d undef)
 old:∀k,(∀j y,listed.getD (f j) false=true->ys[j]?=some y->y.x.d≠k)->(∀d,E8 f ys listed d->(gt base.sl k).has d=false)->cvT E w (gt base.sl k) (a.tmps.getD k undef)
 dfr:a.defers=[]
 size:a.tmps.size=N
 td:∀l b,E.T l b->l<base.nx
theorem PQ {y:Inx} {l:Nat} (h:pI y l=true) {X:List (Nat×Ob)} {ob:Ob} (hg:go (y.x.nw++(y.up++X)) l=some ob):(l,ob)∈y.x.nw\/(l,ob)∈y.up:=by
 by_cases hn:(y.x.nw.any λp=>YN p.1 l)=true
 .rw[xp hn] at hg;exact .inl (A4 hg)
 have hu:(y.up.any λp=>YN p.1 l)=true:=by simp only[pI,Y6] at h;exact h.resolve_left hn
 rw[zv (Z1.2 hn),xp hu] at hg;exact .inr (A4 hg)
theorem Uu {y:Inx} {l:Nat} {ob:Ob} (h:(l,ob)∈y.up):pI y l=true:=by
 simp only[pI,Y6,Zh]
 exact .inr ⟨(l,ob),h,by simp⟩
theorem M5 {y:Inx} {l:Nat} (h:pI y l=true):l∈tC y:=by
 simp only[pI,Y6,Zh] at h
 simp only[tC,YR,ZQ]
 rcases h with⟨p,h1,h2⟩|⟨p,h1,h2⟩
 .exact .inr (.inl ⟨p,h1,YT h2⟩)
 exact .inr (.inr ⟨p,h1,YT h2⟩)
section
variable {P:Program} {N:Nat} {cx:Cx} {ops:Array Oper} {base:St} {f:Nat->Nat} {ys:List Inx} {Q:Exit->Act->World->Prop}
def unl (ops:Array Oper) (listed:Array Bool):Nat:=((YQ ops.size).filter λi=>!listed.getD i false).length
def vU (ops:Array Oper) (listed:Array Bool):Prop:=∀i o,ops[i]?=some o->listed.getD i false=true->∀e∈o.after,Region.binds .any e=true->listed.getD e.on false=true
theorem rW {listed:Array Bool} {i:Nat} (hsz:listed.size=ops.size) (hio:i<ops.size) (hun:listed.getD i false=false):unl ops listed=unl ops (listed.setIfInBounds i true)+1:=by
 have hcount:∀(l:List Nat),l.Nodup->i∈l->(l.filter λk=>!listed.getD k false).length=(l.filter λk=>!(listed.setIfInBounds i true).getD k false).length+1:=by
  intro l
  induction l with
  |nil=>intro _ h;cases h
  |cons k l ihl=>
   intro hnd hm
   obtain⟨hk1,hk2⟩:=ZH.1 hnd
   by_cases hki:i=k
   .subst hki
    have hsame:(l.filter λk=>!listed.getD k false)=(l.filter λk=>!(listed.setIfInBounds i true).getD k false):=by
     apply aal
     intro z hz
     rw[bY oaa,if_neg (λe=>hk1 (by rw[e];exact hz))]
    rw[Zv (by simp only[Zf];exact hun),Zw (by rw[bY oaa,if_pos rfl];simp),hsame,YY]
   have hml:i∈l:=by rcases YU.1 hm with e|e;exact absurd e hki;exact e
   have:=ihl hk2 hml
   have hgk:(listed.setIfInBounds i true).getD k false=listed.getD k false:=by rw[bY oaa,if_neg hki]
   cases hgd:listed.getD k false with
   |true=>rw[Zw (by simp only[hgd];simp),Zw (by simp only[hgk,hgd];simp)];exact this
   |false=>rw[Zv (by simp only[hgd];simp),Zv (by simp only[hgk,hgd];simp),YY,YY,this]
 exact hcount (YQ ops.size) aam (by simpa using hio)
theorem we {listed:Array Bool} {i:Nat} {o:Oper} (hsz:listed.size=ops.size) (hio:i<ops.size) (ho:ops[i]?=some o) (hd:∀e∈o.after,Region.binds .any e=true->listed.getD e.on false=true) (hcl:vU ops listed):vU ops (listed.setIfInBounds i true):=by
 intro j oj hj hdj e he hb
 rw[bY oaa]
 split
 .rfl
 rw[bY oaa] at hdj
 split at hdj
 .rename_i hij;subst hij;rw[ho] at hj;cases hj;exact hd e he hb
 exact hcl j oj hj hdj e he hb
def Edg (ops:Array Oper) (rk:Nat->Nat):Prop:=∀i o,ops[i]?=some o->∀e∈o.after,Region.binds .any e=true->e.on<ops.size/\rk e.on<rk i
theorem RS {ops:Array Oper} (hedge:∀i o,ops[i]?=some o->∀e∈o.after,Region.binds .any e=true->e.on<i):Edg ops (λi=>i):=λi o ho e he hb=>by
 have h:=hedge i o ho e he hb
 have hi:i<ops.size:=by
  rcases Zb i ops.size with h|h
  .exact h
  rw[Zd h] at ho;cases ho
 exact⟨by omega,h⟩
theorem Ep {listed:Array Bool} {rk:Nat->Nat} (hedge:Edg ops rk) (hsz:listed.size=ops.size) {n:Nat} (hc:unl ops listed=n+1):Region.ready .any ops listed≠[]:=by
 intro h0
 have hex:∃i,i<ops.size/\listed.getD i false=false:=by
  have:((YQ ops.size).filter λi=>!listed.getD i false)≠[]:=λe=>by unfold unl at hc;rw[e] at hc;simp at hc
  obtain⟨i,hi⟩:=aaj _ this
  simp only[ZZ,ZW,Zf] at hi
  exact⟨i,hi.1,hi.2⟩
 have hmin:∀n i,rk i<=n->i<ops.size->listed.getD i false=false->∃i,i∈Region.ready .any ops listed:=by
  intro n
  induction n using Nat.strongRecOn with
  |_ n ihn=>
   intro i hin his hif
   by_cases hd:∀e∈ops[i].after,Region.binds .any e=true->listed.getD e.on false=true
   .refine⟨i,mem_ready.2 ⟨?_,ops[i],Zc his,hd⟩⟩
    rw[Zn,Zc oaa] at hif ⊢
    simpa using hif
   simp only[Classical.not_forall] at hd
   obtain⟨e,he,hb,hne⟩:=hd
   have hlt:=hedge i ops[i] (Zc his) e he hb
   exact ihn (rk e.on) oaa e.on (YW _) hlt.1 (by simpa using hne)
 obtain⟨i,h1,h2⟩:=hex
 obtain⟨j,hj⟩:=hmin (rk i) i (YW _) h1 h2
 rw[h0] at hj;cases hj
theorem mc {listed:Array Bool} (hsz:listed.size=ops.size) {i:Nat} (hi:i∈Region.ready .any ops listed):i<ops.size/\listed.getD i false=false/\∃o,ops[i]?=some o/\∀e∈o.after,Region.binds .any e=true->listed.getD e.on false=true:=by
 obtain⟨h1,o,ho,hd⟩:=mem_ready.1 hi
 have hio:i<ops.size:=by
  rcases Zb i ops.size with h|h
  .exact h
  rw[Zd h] at ho;cases ho
 refine⟨hio,?_,o,ho,hd⟩
 rw[Zn,Zc oaa] at h1 ⊢
 simpa using h1
theorem yu {listed:Array Bool} (hcl:vU ops listed) {n i j:Nat} (h:anc ops n i j=true) (hi:∃o,ops[i]?=some o/\∀e∈o.after,Region.binds .any e=true->listed.getD e.on false=true):listed.getD j false=true:=qT hcl n i j h hi
theorem Jh {listed:Array Bool} (hsz:listed.size=ops.size) (hcl:vU ops listed) {n i j:Nat} (h:anc ops n i j=true) (hi:listed.getD i false=true):listed.getD j false=true:=by
 have his:i<ops.size:=by
  rcases Zb i ops.size with h|h
  .exact h
  rw[Zn,Zd oaa] at hi;cases hi
 exact qT hcl n i j h ⟨ops[i],Zc his,hcl i _ (Zc his) hi⟩
theorem OG {o:Oper} {x:Inf} {a:Act} (h:RO N o x) (hs:a.tmps.size=N) (v:Value):a.put o.dst v=a.put (some x.d) v:=by
 rcases h with⟨h,_⟩|⟨h,h2,_⟩
 .rw[h]
 rw[h]
 show a=a.put (some x.d) v
 unfold Act.put
 simp only
 rw[show a.tmps.setIfInBounds x.d v=a.tmps from aap oaa]
theorem JS {a:Act} {d k:Nat} {v:Value} (h:a.tmps.size<=d):(a.put (some d) v).tmps.getD k undef=a.tmps.getD k undef:=by
 unfold Act.put
 simp only
 rw[show a.tmps.setIfInBounds d v=a.tmps from aap h]
theorem PM {listed:Array Bool} {a:Act} {w:World} {E:Env} (hI:Ph N cx base f ys listed a w E) (hdst:qX (gP ys)=true) {i:Nat} {y:Inx} (hx:ys[i]?=some y) (hil:f i<listed.size) (hinj:∀j,j<ys.length->f i=f j->i=j)
 (hun:listed.getD (f i) false=false) (hdN:y.x.d<N\/(N<=y.x.d/\y.x.out= .any)) (hord:∀l,pI y l=true->∀j z,ys[j]?=some z->pI z l=true->listed.getD (f j) false=decide (j<i))
 {v:Value} {E':Env} {w':World} (ok':c8 cx E' w') (ext:rZ y.up y.kl E w E' w') (hv:cvT E' w' y.x.out v) (hnw:∀l ob,(l,ob)∈y.x.nw->cP E' w' l ob) (hup:∀l ob,(l,ob)∈y.up->cP E' w' l ob)
 (hdom:∀l x,E'.r l=some x->E.r l=some x\/∃ob,(l,ob)∈y.x.nw):Ph N cx base f ys (listed.setIfInBounds (f i) true) (a.put (some y.x.d) v) w' E':=by
 have hD:∀d,E8 f ys listed d->E8 f ys (listed.setIfInBounds (f i) true) d:=λd ⟨j,z,h1,h2,h3⟩=>⟨j,z,by
  rw[bY hil];split
  .rfl
  exact h1,h2,h3⟩
 have hDi:∀d,y.kl=some d->E8 f ys (listed.setIfInBounds (f i) true) d:=λd h=>⟨i,y,by rw[bY hil,if_pos rfl],hx,h⟩
 have hgx:∀(j:Nat) (z:Inx),ys[j]?=some z->(gP ys)[j]?=some z.x:=λj z h=>by simp[gP,h]
 have hd':∀j z,ys[j]?=some z->j≠i->z.x.d≠y.x.d:=λj z hj hne he=>hne (qY hdst j i z.x y.x (hgx j z hj) (hgx i y hx) he)
 have hlt:i<ys.length:=(YP.1 hx).1
 refine⟨ok',λl p hl=>?_,λl ob hl hdd=>?_,λj z hj hz hdd=>?_,λk hkk hdd=>?_,hI.dfr,by simpa [Act.put] using hI.size,λl b h=>hI.td l b (by rw[<-ext.T];exact h)⟩
 .rcases hdom l p hl with h|⟨ob,h⟩
  .rcases hI.dom l p h with h|⟨j,z,ob,h1,h2,h3⟩
   .exact .inl h
   refine .inr ⟨j,z,ob,?_,h2,h3⟩
   rw[bY hil];split
   .rfl
   exact h1
  exact .inr ⟨i,y,ob,by rw[bY hil,if_pos rfl],hx,h⟩
 .cases hto:pI y l with
  |true=>
   rw[qJ (q:=λj=>decide (j<i+1)) (B:=base.ob) rfl (λj z hz hj=>by
    simp only[Y7]
    rw[bY hil]
    by_cases hji:f i=f j
    .rw[if_pos hji];have:i=j:=hinj j (YP.1 hz).1 hji
     subst this;simp
    rw[if_neg hji,hord l hto j z hz hj]
    have:i≠j:=λe=>hji (by rw[e])
    simp only[decide_eq_decide];omega),w4 (n:=i+1) (λj=>by simp),List.take_add_one,hx] at hl
   simp only[Option.toList_some] at hl
   rw[Ej,if_pos rfl] at hl
   rcases PQ hto hl with h|h
   .exact hnw l ob h
   exact hup l ob h
  |false=>
   rw[qJ (q:=λj=>listed.getD (f j) false) (B:=base.ob) rfl (λj z hz hj=>by
    simp only[Y7]
    rw[bY hil,if_neg]
    intro e
    have:i=j:=hinj j (YP.1 hz).1 e
    subst this;rw[hx] at hz;cases hz;rw[hto] at hj;cases hj)] at hl
   refine MA hI.ok ext (λob' hm=>?_) (λe=>(hdd l (hDi l e)).1 rfl) (λd hd=>(hdd d (hDi d hd)).2) (hI.obs l ob hl (λd hd=>hdd d (hD d hd)))
   rw[Uu hm] at hto;cases hto
 .by_cases hji:i=j
  .subst hji;rw[hx] at hz;cases hz
   rcases hdN with hdN|⟨_,ho⟩
   .rw[ij (by rw[hI.size];exact hdN),if_pos rfl];exact hv
   rw[ho];trivial
  rw[bY hil,if_neg (λe=>hji (hinj j (YP.1 hz).1 e))] at hj
  rcases hdN with hdN|⟨hdN,_⟩
  .rw[ij (by rw[hI.size];exact hdN),if_neg (Ne.symm (hd' j z hz (Ne.symm hji)))]
   exact Dq hI.ok ext (λd hd=>hdd d (hDi d hd)) (hI.out j z hj hz (λd hd=>hdd d (hD d hd)))
  rw[JS (by rw[hI.size];exact hdN)]
  exact Dq hI.ok ext (λd hd=>hdd d (hDi d hd)) (hI.out j z hj hz (λd hd=>hdd d (hD d hd)))
 have hxk:y.x.d≠k:=hkk i y (by rw[bY hil,if_pos rfl]) hx
 have hpp:(a.put (some y.x.d) v).tmps.getD k undef=a.tmps.getD k undef:=by
  rcases hdN with hdN|⟨hdN,_⟩
  .rw[ij (by rw[hI.size];exact hdN),if_neg hxk]
  exact JS (by rw[hI.size];exact hdN)
 rw[hpp]
 refine Dq hI.ok ext (λd hd=>hdd d (hDi d hd)) (hI.old k (λj z hj hz=>hkk j z ?_ hz) (λd hd=>hdd d (hD d hd)))
 rw[bY hil];split
 .rfl
 exact hj
theorem G8 {done:Nat->Bool} {rk:Nat->Nat} (hedge:Edg ops rk) (hhi:∀i,i<ys.length->f i<ops.size) (hinj:∀i j,i<ys.length->j<ys.length->f i=f j->i=j) (hdis:∀i,i<ys.length->done (f i)=false) {nmax:Nat} (hlab:fB base.nx (gP ys) nmax) (hdst:qX (gP ys)=true)
 (hslot:∀i y,ys[i]?=some y->∀k∈jb y.x.needs,∀j,tJ (gP ys) k=some j->if nlt j i then anc ops ops.size (f i) (f j)=true else(i=j\/anc ops ops.size (f j) (f i)=true))
 (hobj:∀i y,ys[i]?=some y->∀l∈tC y,∀j z,ys[j]?=some z->pI z l=true->if nlt j i then anc ops ops.size (f i) (f j)=true else(i=j\/anc ops ops.size (f j) (f i)=true))
 (hkill:∀j z d,ys[j]?=some z->z.kl=some d->∀i y,ys[i]?=some y->i≠j->y5 y d=true->anc ops ops.size (f j) (f i)=true)
 (htail:∀j,j<ops.size->done j=false->(∀i,i<ys.length->f i≠j)->∀i,i<ys.length->anc ops ops.size j (f i)=true)
 (htold:∀(i:Nat) (o:Oper) (y:Inx),ops[f i]?=some o->ys[i]?=some y->Q0 P N ops base (ys.take i) o y)
 (hfin:∀(listed:Array Bool) a w E,listed.size=ops.size->vU ops listed->(∀j,done j=true->listed.getD j false=true)->(∀i,i<ys.length->listed.getD (f i) false=true)->(∀j,done j=false->(∀i,i<ys.length->f i≠j)->listed.getD j false=false)->Ph N cx base f ys listed a w E->wpAny P .any ops Q (unl ops listed) listed a w):
 ∀(m:Nat) (listed:Array Bool) (a:Act) (w:World) (E:Env),((YQ ys.length).filter λi=>!listed.getD (f i) false).length=m->listed.size=ops.size->vU ops listed->
  (∀j,done j=true->listed.getD j false=true)->(∀j,done j=false->(∀i,i<ys.length->f i≠j)->listed.getD j false=false)->Ph N cx base f ys listed a w E->wpAny P .any ops Q (unl ops listed) listed a w:=by
 intro m
 induction m with
 |zero=>
  intro listed a w E hm hsz hcl hpre hpost hI
  refine hfin listed a w E hsz hcl hpre (λi hi=>?_) hpost hI
  have:=Z6.1 (Zl hm) i (by simpa using hi)
  simpa using this
 |succ m ih=>
  intro listed a w E hm hsz hcl hpre hpost hI
  obtain⟨i0,hi0,hu0⟩:∃i,i<ys.length/\listed.getD (f i) false=false:=by
   have:((YQ ys.length).filter λi=>!listed.getD (f i) false)≠[]:=λe=>by rw[e] at hm;simp at hm
   obtain⟨i,hi⟩:=aaj _ this
   simp only[ZZ,ZW,Zf] at hi
   exact⟨i,hi.1,hi.2⟩
  have hus:=rW (ops:=ops) hsz (hhi i0 hi0) hu0
  rw[hus]
  refine⟨λh0=>absurd h0 (Ep hedge hsz hus),λp hp=>?_⟩
  obtain⟨hio,hun,o,ho,hd⟩:=mc hsz hp
  have hdp:done p=false:=by
   cases h:done p with
   |false=>rfl
   |true=>rw[hpre p h] at hun;cases hun
  obtain⟨i,hil,rfl⟩:∃i,i<ys.length/\p=f i:=by
   apply Classical.byContradiction
   intro hno
   have hno':∀i,i<ys.length->f i≠p:=λi hi e=>hno ⟨i,hi,e.symm⟩
   have:=yu hcl (htail p hio hdp hno' i0 hi0) ⟨o,ho,hd⟩
   rw[this] at hu0;cases hu0
  obtain⟨y,hx⟩:∃y,ys[i]?=some y:=⟨_,YO hil⟩
  have hus':unl ops (listed.setIfInBounds (f i0) true)=unl ops (listed.setIfInBounds (f i) true):=by
   have:=rW (ops:=ops) hsz hio hun;omega
  rw[hus']
  obtain⟨t1,t2,t3,t5⟩:=htold i o y ho hx
  have t4:y.x.d<N\/(N<=y.x.d/\y.x.out= .any):=t3.imp (·.2) (·.2)
  have hanc:∀j,anc ops ops.size (f i) (f j)=true->listed.getD (f j) false=true:=λj h=>yu hcl h ⟨o,ho,hd⟩
  have hanc':∀j,anc ops ops.size (f j) (f i)=true->listed.getD (f j) false=false:=λj h=>by
   cases hj:listed.getD (f j) false with
   |false=>rfl
   |true=>rw[Jh hsz hcl h hj] at hun;cases hun
  have hord:∀l∈tC y,∀j z,ys[j]?=some z->pI z l=true->listed.getD (f j) false=decide (j<i):=by
   intro l hl j z hz hj
   have:=hobj i y hx l hl j z hz hj
   by_cases hji:j<i
   .rw[if_pos (by simp[nlt];omega)] at this
    rw[hanc j this];simp[hji]
   rw[if_neg (by simp[nlt];omega)] at this
   simp only[hji,decide_false]
   rcases this with rfl|h
   .exact hun
   exact hanc' j h
  have hsp:∀d,E8 f ys listed d->y5 y d=false:=λd ⟨j,z,h1,h2,h3⟩=>by
   cases hs:y5 y d with
   |false=>rfl
   |true=>
    have hij:i≠j:=λe=>by subst e;rw[hun] at h1;cases h1
    rw[hanc' j (hkill j z d h2 h3 i y hx hij hs)] at h1;cases h1
  have hneeds:∀z t,(z,t)∈y.x.needs->cvT E w t (a.eval z):=by
   intro z t hm
   have hnt:∀d,E8 f ys listed d->t.has d=false:=λd hd=>by
    have:=hsp d hd
    simp only[y5,Y2] at this
    have:=Z8.1 this.1.1 (z,t) hm
    simpa using this
   have ht:=t1 z t hm
   cases z with
   |tmp k=>
    have hks:k∈jb y.x.needs:=by
     have key:∀(l:List (Operand×T)),(Operand.tmp k,t)∈l->k∈jb l:=by
      intro l
      induction l with
      |nil=>intro h;cases h
      |cons p r ihl=>
       intro h
       rcases YU.1 h with e|h
       .rw[<-e];simp[jb]
       have h9:=ihl h;obtain⟨z,u⟩:=p;cases z<;>simp[jb,h9]
     exact key _ hm
    show cvT E w t (a.tmps.getD k undef)
    have ht':gt (uz base (gP (ys.take i))) k=t:=ht
    have hit:gP (ys.take i)=(gP ys).take i:=by simp[gP,Z7]
    rw[hit] at ht'
    have hgx:∀(j:Nat) (z:Inf),(gP ys)[j]?=some z->∃y',ys[j]?=some y'/\y'.x=z:=λj z h=>by
     simp only[gP,List.getElem?_map,Option.map_eq_some_iff] at h;exact h
    cases hw:tJ (gP ys) k with
    |none=>
     have hno:∀z∈gP ys,z.d≠k:=by
      intro z hz e
      have:=ZI.1 hw z hz
      rw[e] at this;simp at this
     rw[xF _ _ (λz hz=>hno z (Y9 hz))] at ht'
     rw[<-ht']
     exact hI.old k (λj y' _ hy=>hno y'.x (ZQ.2 ⟨y',YS hy,rfl⟩)) (λd hd=>by rw[ht'];exact hnt d hd)
    |some j=>
     have hs:=hslot i y hx k hks j hw
     obtain⟨hjl,hjp,_⟩:=ZG.1 hw
     have hjd:(gP ys)[j].d=k:=YT hjp
     obtain⟨yj,hyj,hyx⟩:=hgx j _ (YO hjl)
     have hju:∀j' z,(gP ys)[j']?=some z->z.d=k->j'=j:=λj' z hy he=>qY hdst j' j z (gP ys)[j] hy (YO hjl) (by rw[he,hjd])
     by_cases hji:j<i
     .rw[if_pos (by simp[nlt];omega)] at hs
      have hdone:=hanc j hs
      have h9:=vw (base:=base) ((gP ys).take i) j (gP ys)[j] (by rw[Za,if_pos hji];exact YO hjl) (λj' z hy he=>hju j' z (by rw[Za] at hy;split at hy;exact hy;cases hy) (by rw[he,hjd]))
      rw[hjd] at h9
      have:=hI.out j yj hdone hyj (λd hd=>by rw[hyx,<-h9,ht'];exact hnt d hd)
      rw[hyx,hjd] at this
      rw[<-ht',h9];exact this
     rw[if_neg (by simp[nlt];omega)] at hs
     rw[xF _ _ (λz hz e=>by
      obtain⟨j',hj'⟩:=Y4 hz
      rw[Za] at hj'
      split at hj'
      .rename_i hlt;have:=hju j' z hj' e;omega
      cases hj')] at ht'
     rw[<-ht']
     refine hI.old k (λj' y' hj' hy he=>?_) (λd hd=>by rw[ht'];exact hnt d hd)
     have hjj:=hju j' y'.x (by simp[gP,hy]) he
     subst hjj
     rcases hs with rfl|hs
     .rw[hun] at hj';cases hj'
     rw[hanc' j' hs] at hj';cases hj'
   |const v=>have:=(show Rel N cx E ⟨[],[],base.nx⟩ a w->cvT E w (opT [] (.const v)) (a.eval (.const v)) from λh=>h.op _);rw[<-ht];cases v<;>simp only[opT,Act.eval,cvT,cvV]<;>first|exact xm E w _|exact⟨_,rfl,tK E w _⟩|(simp only[cvC,rdD])
   |func f=>rw[<-ht];simp[opT,Act.eval,cvT,cvV,cvC]
   |global g=>rw[<-ht];trivial
  have hnob:∀l ob,(l,ob)∈y.x.nob->cP E w l ob:=by
   intro l ob hm
   have hgo:=t2 l ob hm
   refine hI.obs l ob ?_ (λd hd=>by
    have:=hsp d hd
    simp only[y5,Y2] at this
    refine⟨λe=>?_,by simpa using Z8.1 this.2 (l,ob) hm⟩
    subst e
    have h9:tF (tC y) l=true:=Zh.2 ⟨l,by simp only[tC,YR,ZQ];exact .inl ⟨_,hm,rfl⟩,by simp⟩
    rw[h9] at this;cases this.1.2)
   rw[<-hgo,obX,<-w4 (p:=λj=>decide (j<i)) (k:=0) (n:=i) (λj=>by simp)]
   refine qJ rfl (λj z hz hj=>?_)
   rw[Y7]
   exact hord l (by simp only[tC,YR,ZQ];exact .inl ⟨_,hm,rfl⟩) j z hz hj
  have hgi:(gP ys)[i]?=some y.x:=by simp[gP,hx]
  have hfresh:∀l ob,(l,ob)∈y.x.nw->E.r l=none:=by
   intro l ob hm
   cases hr:E.r l with
   |none=>rfl
   |some p=>
    have hlr:=(kZ hlab).2 i y.x l ob hgi hm
    rcases hI.dom l p hr with h|⟨j,z,ob',h1,h2,h3⟩
    .omega
    have:=(xy hlab i j y.x z.x l ob ob' hgi (by simp[gP,h2]) hm h3).1
    subst this;rw[hun] at h1;cases h1
  have hnext:∀v E' w',c8 cx E' w'->rZ y.up y.kl E w E' w'->cvT E' w' y.x.out v->(∀l ob,(l,ob)∈y.x.nw->cP E' w' l ob)->(∀l ob,(l,ob)∈y.up->cP E' w' l ob)->(∀l x,E'.r l=some x->E.r l=some x\/∃ob,(l,ob)∈y.x.nw)->
   wpAny P .any ops Q (unl ops (listed.setIfInBounds (f i) true)) (listed.setIfInBounds (f i) true) (a.put (some y.x.d) v) w':=by
   intro v E' w' k1 k2 k3 k4 k4' k5
   refine ih _ _ _ E' ?_ (by simpa using hsz) (we hsz hio ho hd hcl) (λj hj=>?_) (λj hj hj'=>?_) (PM hI hdst hx oaa (λj hj e=>hinj i j hil hj e) hun t4 (λl hl=>hord l (M5 hl)) k1 k2 k3 k4 k4' k5)
   .have hcount:∀(l:List Nat),l.Nodup->(∀k∈l,k<ys.length)->i∈l->(l.filter λk=>!listed.getD (f k) false).length=(l.filter λk=>!(listed.setIfInBounds (f i) true).getD (f k) false).length+1:=by
     intro l
     induction l with
     |nil=>intro _ _ h;cases h
     |cons k l ihl=>
      intro hnd hbd hm
      obtain⟨hk1,hk2⟩:=ZH.1 hnd
      by_cases hki:i=k
      .subst hki
       have hsame:(l.filter λk=>!listed.getD (f k) false)=(l.filter λk=>!(listed.setIfInBounds (f i) true).getD (f k) false):=by
        apply aal
        intro z hz
        rw[bY oaa,if_neg (λe=>hk1 (by
         have:i=z:=hinj i z hil (hbd z (by simp[hz])) e
         rw[this];exact hz))]
       rw[Zv (by simp only[Zf];exact hun),Zw (by rw[bY oaa,if_pos rfl];simp),hsame,YY]
      have hml:i∈l:=by rcases YU.1 hm with e|e;exact absurd e hki;exact e
      have:=ihl hk2 (λz hz=>hbd z (by simp[hz])) hml
      have hgk:(listed.setIfInBounds (f i) true).getD (f k) false=listed.getD (f k) false:=by rw[bY oaa,if_neg (λe=>hki (hinj i k hil (hbd k (by simp)) e))]
      cases hgd:listed.getD (f k) false with
      |true=>rw[Zw (by simp only[hgd];simp),Zw (by simp only[hgk,hgd];simp)];exact this
      |false=>rw[Zv (by simp only[hgd];simp),Zv (by simp only[hgk,hgd];simp),YY,YY,this]
    have:=hcount (YQ ys.length) aam (λk hk=>by simpa using hk) (by simpa using hil)
    omega
   .rw[bY oaa];split
    .rfl
    exact hpre j hj
   rw[bY oaa,if_neg (hj' i hil)];exact hpost j hj hj'
  have hrun:∀needs,(∀z t,(z,t)∈needs->cvT E w t (a.eval z))->AWK P o needs y.x.nob y.x.out y.x.nw y.up y.kl->o.wp P a w (wpAny P .any ops Q (unl ops (listed.setIfInBounds (f i) true)) (listed.setIfInBounds (f i) true)) Q:=by
   intro needs hne hawn
   refine rX (λ_ _ _ h=>h.elim) (Oper.wp_mono ?_ (hawn cx E a w hI.ok hne hnob (λl ob hm=>⟨hfresh l ob hm,D7 hlab i y.x l ob hgi hm⟩)))
   rintro a' w' ⟨v,E',rfl,k1,k2,k3,k4,k4',k5⟩
   rw[OG t3 hI.size]
   exact hnext v E' w' k1 k2 k3 k4 k4' k5
  have hguard:∀j dj (b:Bool),(ops[j]?).bind (·.dst)=some dj->dj<N->cvT E w (tB b) (a.eval (.tmp dj))->yielded ops a.tmps j=some b:=by
   intro j dj b hj hdj hcv
   have hb:a.tmps.getD dj undef= .bool b:=by simpa [cvT,cvV,cvC,rdD,Act.eval] using hcv
   have hs:dj<a.tmps.size:=by rw[hI.size];exact hdj
   have h2:a.tmps[dj]?=some (.bool b):=by
    rw[Zc hs];simpa [Array.getD,hs] using hb
   unfold yielded
   cases ho':ops[j]? with
   |none=>simp[ho'] at hj
   |some o'=>simp[ho'] at hj;simp[hj,h2]
  unfold wpOp
  simp only[ho]
  rcases t5 with⟨hg,hawn⟩|⟨j,dj,b,zs,hg,hj,hdj,hnd,hawn⟩|⟨j,dj,b,t,hg,hj,hdj,hnd,hno,hout,hnw,hup,hkl⟩
  .rw[if_pos (by simp[Region.wanted,hg])]
   exact .inl (hrun _ hneeds hawn)
  .have hy:=hguard j dj b hj hdj (hneeds (.tmp dj) (tB b) (by rw[hnd];simp))
   rw[if_pos (by simp[Region.wanted,hg,hy])]
   exact .inl (hrun zs (λz t hm=>hneeds z t (by rw[hnd];exact .tail _ hm)) hawn)
  have hy:=E7 (N:=N) (ops:=ops) (hneeds (.tmp dj) t (by rw[hnd];simp)) (by rw[hI.size];exact hdj) hj hno
  rw[if_neg (by simp[Region.wanted,hg,hy]),OG t3 hI.size]
  exact hnext undef E w hI.ok (by rw[hup,hkl];exact .of_extW (.of_ext (Ext.refl E w))) (by rw[hout];exact⟨#[],rfl,trivial⟩) (by rw[hnw];simp) (by rw[hup];simp) (λ_ _ h=>.inl h)
end
open Go.RowKit
def BO (P:Program) (N:Nat) (ops:Array Oper) (o:Oper) (st st':St):Prop:=
 (o.guard=none/\AWO P N o st st')\/(∃j dj b,o.guard=some (j,b)/\(ops[j]?).bind (·.dst)=some dj/\dj<N/\gt st.sl dj=tB b/\AWO P N o st st')
def Jo (ops:Array Oper) (done:List Nat) (h:Nat):Bool:=!tF done h&&(YQ ops.size).all λj=>YN j h||tF done j||anc ops ops.size j h
def kls:List Inx->List Nat
 |[]=>[]
 |y::ys=>match y.kl with
  |some d=>d::kls ys
  |none=>kls ys
theorem Ok {d:Nat}:∀{ys:List Inx} {y:Inx},y∈ys->y.kl=some d->d∈kls ys
 |z::zs,y,hm,hk=>by
  rcases YU.1 hm with rfl|hm
  .simp[kls,hk]
  have:=Ok hm hk
  unfold kls
  split
  .exact aah _ this
  exact this
def IZ (ys:List Inx) (st s:St):Prop:=
 (∀k,gt s.sl k= .any\/(gt s.sl k=gt st.sl k/\∀d∈kls ys,(gt st.sl k).has d=false))/\(∀l x,go s.ob l=some x->go st.ob l=some x/\∀d∈kls ys,l≠d/\x.hasO d=false)/\s.nx=st.nx
theorem Do {ys:List Inx} {st:St} (h:kls ys=[]):IZ ys st st:=by
 refine⟨λk=>.inr ⟨rfl,?_⟩,λl x hl=>⟨hl,?_⟩,rfl⟩<;>(rw[h];intro d hd;cases hd)
theorem Dn {ys:List Inx} {ds:List Nat} {sl sl':List (Nat×T)} {ob ob':List (Nat×Ob)} {nx:Nat} (h:kls ys=ds) (hk:D6 ds sl ob=some (sl',ob')):IZ ys ⟨sl,ob,nx⟩ ⟨sl',ob',nx⟩:=by
 obtain⟨h1,h2⟩:=Ka hk
 subst h
 exact⟨h1,h2,rfl⟩
def DZ (P:Program) (N:Nat) (ops:Array Oper):List (Nat×Oper)->List Nat->List Nat->List Inx->St->St->(St->Prop)->Prop
 |[],done,seg,ys,_,st,K=>Am ops done seg ys=true/\∃s,IZ ys st s/\K s
 |(p,o)::r,done,seg,ys,base,st,K=>
  (∃y st1 st',DS2 P N ops o st st1 y/\xK st1 st'/\DZ P N ops r done (seg++[p]) (ys++[y]) base st' K)\/
  (Am ops done seg ys=true/\Jo ops (seg++done) p=true/\∃s st0 st1 st2,IZ ys st s/\dO N s st0/\BO P N ops o st0 st1/\dO N st1 st2/\DZ P N ops r (p::(seg++done)) [] [] st2 st2 K)
theorem gD {l:List Nat} {n:Nat}:tF l n=true↔n∈l:=by
 simp only[tF,Zh]
 constructor
 .rintro⟨k,h1,h2⟩;rw[<-YT h2];exact h1
 intro h;exact⟨n,h,by simp⟩
theorem pO {seg:List Nat} {j:Nat} (h:j<seg.length):seg[j]?=some (at0 seg j):=by
 unfold at0
 rw[Z4,YO h]
 rfl
section
variable {P:Program} {N:Nat} {cx:Cx} {ops:Array Oper} {base:St} {f:Nat->Nat} {done seg:List Nat} {ys:List Inx} {Q:Exit->Act->World->Prop}
theorem KV (h:Am ops done seg ys=true):qX (gP ys)=true/\seg.length=ys.length/\(seg++done).Nodup/\(∀i,i<ys.length->at0 seg i<ops.size)/\
 (∀i y,ys[i]?=some y->∀k∈jb y.x.needs,∀j,tJ (gP ys) k=some j->if nlt j i then anc ops ops.size (at0 seg i) (at0 seg j)=true else(i=j\/anc ops ops.size (at0 seg j) (at0 seg i)=true))/\
 (∀i y,ys[i]?=some y->∀l∈tC y,∀j z,ys[j]?=some z->pI z l=true->if nlt j i then anc ops ops.size (at0 seg i) (at0 seg j)=true else(i=j\/anc ops ops.size (at0 seg j) (at0 seg i)=true))/\
 (∀j,j<ops.size->tF done j=false->(∀i,i<ys.length->at0 seg i≠j)->∀i,i<ys.length->anc ops ops.size j (at0 seg i)=true)/\
 (∀j z d,ys[j]?=some z->z.kl=some d->∀i y,ys[i]?=some y->i≠j->y5 y d=true->anc ops ops.size (at0 seg j) (at0 seg i)=true):=by
 simp only[Am,v0] at h
 obtain⟨⟨⟨⟨⟨⟨h1,h2⟩,h2'⟩,h2''⟩,h3⟩,h4⟩,h5⟩:=h
 have hlen:seg.length=ys.length:=YT h2
 have key:∀(i j:Nat),(if nlt j i then anc ops ops.size (at0 seg i) (at0 seg j) else YN i j||anc ops ops.size (at0 seg j) (at0 seg i))=true->if nlt j i then anc ops ops.size (at0 seg i) (at0 seg j)=true else(i=j\/anc ops ops.size (at0 seg j) (at0 seg i)=true):=by
  intro i j h
  split
  .rename_i hji;simpa [hji] using h
  rename_i hji
  simp only[hji,aak,if_false,Y6] at h
  rcases h with h|h
  .exact .inl (YT h)
  exact .inr h
 refine⟨h1,hlen,ke h2',λi hi=>?_,λi y hy k hk j hj=>?_,λi y hy l hl j z hz ht=>?_,λj hj hd hs i hi=>?_,λj z d hz hd i y hy hij hs=>?_⟩
 .exact cX (YX.1 h2'' (at0 seg i) (YS (pO oaa)))
 .have hil:=(YP.1 hy).1
  have:=YX.1 h3 i (by simpa using hil)
  simp only[hy,v0] at this
  have:=YX.1 this.1 k hk
  simp only[hj] at this
  exact key i j this
 .have hil:=(YP.1 hy).1
  have hjl:=(YP.1 hz).1
  have:=YX.1 h3 i (by simpa using hil)
  simp only[hy,v0] at this
  have:=YX.1 (YX.1 this.2 l hl) j (by simpa using hjl)
  simp only[hz,ht,Z0,Zk] at this
  exact key i j this
 .have:=YX.1 h4 j (by simpa using hj)
  rw[Y6,Y6] at this
  rcases this with(h|h)|h
  .rw[hd] at h;cases h
  .obtain⟨n,hn⟩:=Y4 (gD.1 h)
   have hns:=(YP.1 hn).1
   have:=pO hns
   rw[hn] at this
   exact absurd (Option.some.inj this).symm (hs n oaa)
  exact YX.1 h (at0 seg i) (YS (pO oaa))
 have hjl:=(YP.1 hz).1
 have hil:=(YP.1 hy).1
 have h6:=YX.1 h5 j (by simpa using hjl)
 simp only[hz,hd] at h6
 have h7:=YX.1 h6 i (by simpa using hil)
 simp only[hy,hs,Z0,Bool.or_false,Y6] at h7
 rcases h7 with h7|h7
 .exact absurd (YT h7) hij
 exact h7
theorem J2 {listed:Array Bool} {a:Act} {w:World} {E:Env} {st:St} (hI:Ph N cx base f ys listed a w E) (hdst:qX (gP ys)=true) (hdone:∀j,j<ys.length->listed.getD (f j) false=true)
 (h1:∀k,gt st.sl k=gt (uz base (gP ys)) k) (h2:st.ob=obX base ys) (h3:fB base.nx (gP ys) st.nx) {s:St} (hC:IZ ys st s):Rel N cx E s a w:=by
 have hr:=kZ h3
 obtain⟨C1,C2,C3⟩:=hC
 have hDk:∀d,E8 f ys listed d->d∈kls ys:=λd ⟨j,y,_,hy,hk⟩=>Ok (YS hy) hk
 refine⟨hI.ok,λl' x' hl=>?_,λl' ob hl=>?_,λk=>?_,hI.dfr,hI.size,λl' b' h'=>by rw[C3];exact Zg (hI.td l' b' h') hr.1⟩
 .rw[C3];rcases hI.dom l' x' hl with h|⟨j,y,ob,_,h4,h5⟩
  .omega
  have:=hr.2 j y.x l' ob (by simp[gP,h4]) h5;omega
 .obtain⟨hl,hn⟩:=C2 l' ob hl
  refine hI.obs l' ob ?_ (λd hd=>hn d (hDk d hd))
  rw[<-hl,h2,obX]
  refine qJ rfl (λj z hz hj=>?_)
  rw[Y7]
  exact hdone j (YP.1 hz).1
 rcases C1 k with e|⟨e,hn⟩
 .rw[e];trivial
 rw[e]
 have hn':∀d,E8 f ys listed d->(gt st.sl k).has d=false:=λd hd=>hn d (hDk d hd)
 rw[h1 k] at hn' ⊢
 cases hw:tJ (gP ys) k with
 |none=>
  have hno:∀z∈gP ys,z.d≠k:=by
   intro z hz e
   have:=ZI.1 hw z hz
   rw[e] at this;simp at this
  rw[xF _ _ hno] at hn' ⊢
  exact hI.old k (λj y _ hy=>hno y.x (ZQ.2 ⟨y,YS hy,rfl⟩)) hn'
 |some j=>
  obtain⟨hjl,hjp,_⟩:=ZG.1 hw
  have hjd:(gP ys)[j].d=k:=YT hjp
  have hjl':j<ys.length:=by simpa [gP] using hjl
  have h5:(gP ys)[j]=(ys[j]).x:=by simp[gP]
  have h9:=vw (base:=base) (gP ys) j (gP ys)[j] (YO hjl) (λj' y hy he=>qY hdst j' j y (gP ys)[j] hy (YO hjl) he)
  rw[hjd] at h9
  have:=hI.out j ys[j] (hdone j hjl') (YO hjl') (λd hd=>by rw[<-h5,<-h9];exact hn' d hd)
  rw[<-h5,hjd] at this
  rw[h9];exact this
theorem KF {listed:Array Bool} {a:Act} {w:World} {E:Env} (hR:Rel N cx E base a w) (hl:∀j,j<ys.length->listed.getD (f j) false=false):Ph N cx base f ys listed a w E:=by
 refine⟨hR.ok,λl x h=>.inl (hR.dom l x h),λl ob h _=>?_,λj y h hy _=>?_,λk _ _=>hR.sl k,hR.dfr,hR.size,hR.td⟩
 .refine hR.obs l ob ?_
  rw[qJ (q:=λ_=>false) (B:=base.ob) rfl (λj z hz hj=>by rw[Y7];exact hl j (YP.1 hz).1)] at h
  rw[w4 (n:=0) (λj=>by simp)] at h
  simpa [obF] using h
 rw[hl j (YP.1 hy).1] at h;cases h
theorem Kn {l:List Nat} (h:l.Nodup):∀(i j:Nat) (x:Nat),l[i]?=some x->l[j]?=some x->i=j:=by
 intro i j x hi hj
 obtain⟨hi',e1⟩:=YP.1 hi
 obtain⟨hj',e2⟩:=YP.1 hj
 rcases aad i j with h'|h'|h'
 .exact absurd (e1.trans e2.symm) (Zq.1 h i j hi' hj' h')
 .exact h'
 exact absurd (e2.trans e1.symm) (Zq.1 h j i hj' hi' h')
theorem RR {K:St->Prop} {rk:Nat->Nat} (hedge:Edg ops rk) (hQ:∀E st a w,Rel N cx E st a w->K st->Q .normal a w):
 ∀{l:List (Nat×Oper)} {done seg:List Nat} {ys:List Inx} {base st:St},DZ P N ops l done seg ys base st K->seg.length=ys.length->(∀q∈l,ops[q.1]?=some q.2)->(∀j,j<ops.size->j∈seg\/j∈done\/∃q∈l,q.1=j)->
  (∀(i:Nat) (o:Oper) (y:Inx),ops[at0 seg i]?=some o->ys[i]?=some y->Q0 P N ops base (ys.take i) o y)->
  (∀k,gt st.sl k=gt (uz base (gP ys)) k)->st.ob=obX base ys->fB base.nx (gP ys) st.nx->
  ∀(listed:Array Bool) (a:Act) (w:World) (E:Env),listed.size=ops.size->vU ops listed->(∀j,listed.getD j false=tF done j)->Rel N cx E base a w->wpAny P .any ops Q (unl ops listed) listed a w:=by
 intro l
 induction l with
 |nil=>
  intro done seg ys base st hD hlen hops hcov htold h1 h2 h3 listed a w E hsz hcl hls hR
  obtain⟨hseg,s,hcl0,hK⟩:=hD
  obtain⟨c1,c1',c1'',c2,c3,c4,c5,c6⟩:=KV hseg
  obtain⟨nd1,nd2,nd3⟩:=aac.1 c1''
  have hnd:∀i,i<ys.length->tF done (at0 seg i)=false:=λi hi=>by
   rw[Z1];intro h
   exact nd3 _ (YS (pO oaa)) _ (gD.1 h) rfl
  refine G8 (f:=at0 seg) (done:=tF done) hedge c2 (λi j hi hj e=>Kn nd1 i j _ (pO oaa) (by rw[e];exact pO oaa)) hnd h3 c1 c3 c4 c6 c5 htold (λlisted' a' w' E' hsz' hcl' hd' hs' hp' hI'=>?_) _ listed a w E rfl hsz hcl (λj hj=>by rw[hls j];exact hj) (λj hj _=>by rw[hls j];exact hj) (KF hR (λj hj=>by rw[hls];exact hnd j hj))
  have hall:∀j,j<ops.size->listed'.getD j false=true:=λj hj=>by
   rcases hcov j hj with h|h|⟨q,hq,_⟩
   .obtain⟨i,hi⟩:=Y4 h
    have his:=(YP.1 hi).1
    have:=pO his;rw[hi] at this
    rw[Option.some.inj this];exact hs' i oaa
   .exact hd' j (gD.2 h)
   cases hq
  have hu:unl ops listed'=0:=by
   unfold unl
   rw[aag,Z6]
   intro j hj
   rw[hall j (by simpa using hj)]
   simp
  rw[hu]
  refine⟨?_,hQ E' s a' w' (J2 hI' c1 hs' h1 h2 h3 hcl0) hK⟩
  rw[List.eq_nil_iff_forall_not_mem]
  intro i hi
  obtain⟨k1,k2,_⟩:=mc hsz' hi
  rw[hall i k1] at k2;cases k2
 |cons q r ih=>
  obtain⟨p,o⟩:=q
  intro done seg ys base st hD hlen hops hcov htold h1 h2 h3 listed a w E hsz hcl hls hR
  have hat:ops[p]?=some o:=hops (p,o) (by simp)
  rcases hD with⟨y,st1,st',hds,hsame,hr⟩|⟨hseg,hbar,s,st0,st1,st2,hcl0,hw0,hbo,hw1,hr⟩
  .obtain⟨k1,k2,k3,k4⟩:=QK hds hsame h1 h2 h3
   refine ih hr (by simp[hlen]) (λq hq=>hops q (by simp[hq])) (λj hj=>?_) (λi o' y' ho' hy'=>?_) k2 k3 k4 listed a w E hsz hcl hls hR
   .rcases hcov j hj with h|h|⟨q,hq,e⟩
    .exact .inl (by simp[h])
    .exact .inr (.inl h)
    rcases YU.1 hq with rfl|hq
    .exact .inl (by simp[<-e])
    exact .inr (.inr ⟨q,hq,e⟩)
   rcases Zb i ys.length with h|h
   .rw[YZ h] at hy'
    rw[List.take_append_of_le_length oaa]
    have e:at0 (seg++[p]) i=at0 seg i:=by unfold at0;rw[Z4,Z4,YZ oaa]
    rw[e] at ho'
    exact htold i o' y' ho' hy'
   have hi:i=ys.length:=by
    have:=(YP.1 hy').1
    simp at this;omega
   subst hi
   simp at hy'
   subst hy'
   rw[List.take_left]
   have e:at0 (seg++[p]) ys.length=p:=by unfold at0;rw[Z4,<-hlen];simp
   rw[e,hat] at ho'
   cases ho'
   exact k1
  obtain⟨c1,c1',c1'',c2,c3,c4,c5,c6⟩:=KV hseg
  obtain⟨nd1,nd2,nd3⟩:=aac.1 c1''
  have hlt:p<ops.size:=by
   rcases Zb p ops.size with h|h
   .exact h
   rw[Zd h] at hat;cases hat
  have hnd:∀i,i<ys.length->tF done (at0 seg i)=false:=λi hi=>by
   rw[Z1];intro h
   exact nd3 _ (YS (pO oaa)) _ (gD.1 h) rfl
  refine G8 (f:=at0 seg) (done:=tF done) hedge c2 (λi j hi hj e=>Kn nd1 i j _ (pO oaa) (by rw[e];exact pO oaa)) hnd h3 c1 c3 c4 c6 c5 htold (λlisted' a' w' E' hsz' hcl' hd' hs' hp' hI'=>?_) _ listed a w E rfl hsz hcl (λj hj=>by rw[hls j];exact hj) (λj hj _=>by rw[hls j];exact hj) (KF hR (λj hj=>by rw[hls];exact hnd j hj))
  have hseg':∀j,j∈seg->listed'.getD j false=true:=λj h=>by
   obtain⟨i,hi⟩:=Y4 h
   have his:=(YP.1 hi).1
   have:=pO his;rw[hi] at this
   rw[Option.some.inj this];exact hs' i oaa
  have hls':∀j,listed'.getD j false=tF (seg++done) j:=λj=>by
   cases hm:tF (seg++done) j with
   |true=>
    rcases YR.1 (gD.1 hm) with h|h
    .exact hseg' j h
    exact hd' j (gD.2 h)
   |false=>
    have hn:j∉seg++done:=λh=>by rw[gD.2 h] at hm;cases hm
    refine hp' j ?_ (λi hi e=>hn ?_)
    .rw[Z1];intro h;exact hn (YR.2 (.inr (gD.1 h)))
    rw[<-e];exact YR.2 (.inl (YS (pO oaa)))
  have hRel:=J2 hI' c1 hs' h1 h2 h3 hcl0
  simp only[Jo,v0] at hbar
  obtain⟨hpd,hbar⟩:=hbar
  have hun:listed'.getD p false=false:=by rw[hls'];simpa using hpd
  have hus:=rW (ops:=ops) hsz' hlt hun
  rw[hus]
  refine⟨λh0=>absurd h0 (Ep hedge hsz' hus),λq hq=>?_⟩
  obtain⟨hio,hunp,o',ho',hd⟩:=mc hsz' hq
  have hp:q=p:=by
   have hb:=YX.1 hbar q (by simpa using hio)
   rw[Y6,Y6] at hb
   rcases hb with(hb|hb)|hb
   .exact YT hb
   .rw[hls',hb] at hunp;cases hunp
   have:=yu hcl' hb ⟨o',ho',hd⟩
   rw[hun] at this;cases this
  subst hp
  rw[hat] at ho'
  cases ho'
  obtain⟨E0,hR0⟩:=hw0 cx E' a' w' hRel
  have hrun:∀(h:AWO P N o st0 st1),o.wp P a' w' (wpAny P .any ops Q (unl ops (listed'.setIfInBounds q true)) (listed'.setIfInBounds q true)) Q:=by
   intro h
   refine rX (λ_ _ _ h=>h.elim) (Oper.wp_mono ?_ (h cx E0 a' w' hR0))
   rintro a2 w2 ⟨E2,hR2⟩
   obtain⟨E3,hR3⟩:=hw1 cx E2 a2 w2 hR2
   refine ih hr rfl (λq hq=>hops q (by simp[hq])) (λj hj=>?_) (λi o' y' ho' hy'=>by simp at hy') (λk=>rfl) rfl rfl _ a2 w2 E3 (by simpa using hsz') (we hsz' hlt hat hd hcl') (λj=>?_) hR3
   .rcases hcov j hj with h|h|⟨z,hz,e⟩
    .exact .inr (.inl (by simp[h]))
    .exact .inr (.inl (by simp[h]))
    rcases YU.1 hz with rfl|hz
    .exact .inr (.inl (by simp[<-e]))
    exact .inr (.inr ⟨z,hz,e⟩)
   rw[bY oaa]
   split
   .rename_i h;subst h;symm;exact gD.2 (by simp)
   rename_i hne
   rw[hls' j]
   cases hm:tF (seg++done) j with
   |true=>symm;exact gD.2 (aah _ (gD.1 hm))
   |false=>
    symm;rw[Z1];intro h
    rcases YU.1 (gD.1 h) with e|h
    .exact hne e.symm
    rw[gD.2 h] at hm;cases hm
  unfold wpOp
  simp only[hat]
  rcases hbo with⟨hg,hawo⟩|⟨j,dj,b,hg,hj,hdj,hb,hawo⟩
  .rw[if_pos (by simp[Region.wanted,hg])]
   exact .inl (hrun hawo)
  have hy:=E6 (ops:=ops) hR0 hj hdj hb
  rw[if_pos (by simp[Region.wanted,hg,hy])]
  exact .inl (hrun hawo)
end
def Ks (l:List Oper):List Nat->Option (List (Nat×Oper))
 |[]=>some []
 |i::is=>match l[i]?,Ks l is with
  |some o,some r=>some ((i,o)::r)
  |_,_=>none
def U3 (n:Nat) (is:List Nat):Bool:=(YQ n).all λj=>tF is j
theorem rK {l:List Oper}:∀{is:List Nat} {r:List (Nat×Oper)},Ks l is=some r->(∀q∈r,l[q.1]?=some q.2)/\(∀j∈is,∃q∈r,q.1=j)
 |[],r,h=>by simp[Ks] at h;subst h;simp
 |i::is,r,h=>by
  simp only[Ks] at h
  split at h
  .rename_i o r' h1 h2
   simp at h;subst h
   obtain⟨k1,k2⟩:=rK h2
   refine⟨λq hq=>?_,λj hj=>?_⟩
   .rcases YU.1 hq with rfl|hq
    .exact h1
    exact k1 q hq
   rcases YU.1 hj with rfl|hj
   .exact⟨_,List.mem_cons_self ..,rfl⟩
   obtain⟨q,hq,e⟩:=k2 j hj;exact⟨q,aah _ hq,e⟩
  cases h
theorem mz {P:Program} {N id:Nat} {l:List Oper} {st:St} {AQ:Exit->St->Prop} (is:List Nat) {r:List (Nat×Oper)} (hm:P.follows .mixedOrders=true:=by exact Try.follows) (he:HG l.toArray=true:=by kernel_rfl) (hc:U3 l.length is=true:=by kernel_rfl) (ho:Ks l is=some r:=by exact rfl)
 (h:DZ P N l.toArray r [] [] [] st st (λs=>AQ .normal s)):AWC P N (.region id l.toArray true) st AQ:=by
 intro cx E a w hR
 refine wp_region_any hm ?_
 have hR':=Ag hR
 have hedge:∀i o,l.toArray[i]?=some o->∀e∈o.after,Region.binds .any e=true->e.on<i:=by
  intro i o ho e hm hb
  have hi:i<l.toArray.size:=by
   rcases Zb i l.toArray.size with h|h
   .exact h
   rw[Zd h] at ho;cases ho
  have:=YX.1 he i (by simpa using hi)
  simp only[ho] at this
  have:=YX.1 this e (by simpa using hm)
  simp only[hb,Z0,Zk] at this
  exact cX this
 have hfull:unl l.toArray (Y5 l.toArray.size false)=l.toArray.size:=by
  unfold unl
  rw[List.filter_eq_self.2]
  .simp
  intro i hi;rw[gF];rfl
 have:=RR (P:=P) (cx:=cx) (Q:=D9 N cx AQ) (RS hedge) (λE st a w hR hK=>⟨E,st,hR,hK⟩) h rfl (λq hq=>by have:=(rK ho).1 q hq;simpa using this) (λj hj=>by
  have hj':j<l.length:=by simpa using hj
  have:=YX.1 hc j (by simpa using hj')
  exact .inr (.inr ((rK ho).2 j (gD.1 this)))) (λi o y _ hy=>by simp at hy) (λk=>rfl) rfl rfl (Y5 l.toArray.size false) a _ E (by simp) (λi o ho hd=>by rw[gF] at hd;cases hd) (λj=>by rw[gF];simp[tF]) hR'
 rw[hfull] at this
 exact this
section
variable {P:Program} {N:Nat} {ops:Array Oper} {l:List (Nat×Oper)} {o:Oper} {st st' base:St} {x:Inf} {y:Inx} {K:St->Prop} {ys:List Inx} {dn seg:List Nat} {p:Nat}
theorem LV (hs:Am ops dn seg ys=true) (hk:kls ys=[]) (h:K st):DZ P N ops [] dn seg ys base st K:=⟨hs,st,Do hk,h⟩
theorem Vh {ds:List Nat} {sl sl':List (Nat×T)} {ob ob':List (Nat×Ob)} {nx:Nat} (hs:Am ops dn seg ys=true) (hk:kls ys=ds) (hA:D6 ds sl ob=some (sl',ob')) (h:K ⟨sl',ob',nx⟩):DZ P N ops [] dn seg ys base ⟨sl,ob,nx⟩ K:=⟨hs,_,Dn hk hA,h⟩
theorem iS (hg:o.guard=none) (h:NS P N o st st' x) (h':DZ P N ops l dn (seg++[p]) (ys++[⟨x,[],none⟩]) base st' K):DZ P N ops ((p,o)::l) dn seg ys base st K:=.inl ⟨_,st',st',.inl ⟨hg,Kp h⟩,.refl _,h'⟩
theorem RQ {j:Nat} {dj:Tmp} {b:Bool} (hg:o.guard=some (j,b)) (hj:(ops[j]?).bind (·.dst)=some dj) (hdj:nlt dj N=true) (hb:gt st.sl dj=tB b) (h:NS P N o st st' x)
 (h':DZ P N ops l dn (seg++[p]) (ys++[⟨{x with needs:=(.tmp dj,tB b)::x.needs},[],none⟩]) base st' K):DZ P N ops ((p,o)::l) dn seg ys base st K:=.inl ⟨_,st',st',.inr (.inl ⟨j,dj,b,_,hg,hj,cX hdj,hb,Kp h,rfl⟩),.refl _,h'⟩
theorem tg (hg:o.guard=none) (h:NX P N o st st' y) (h':DZ P N ops l dn (seg++[p]) (ys++[y]) base st' K):DZ P N ops ((p,o)::l) dn seg ys base st K:=.inl ⟨_,st',st',.inl ⟨hg,h⟩,.refl _,h'⟩
theorem Vi {j:Nat} {dj d:Tmp} {b:Bool} (hg:o.guard=some (j,b)) (hj:(ops[j]?).bind (·.dst)=some dj) {t:T} (hdj:nlt dj N=true) (ht:gt st.sl dj=t) (hb:noG b t=true) (hd:o.dst=some d) (hN:nlt d N=true)
 (h':DZ P N ops l dn (seg++[p]) (ys++[⟨⟨d,[(.tmp dj,t)],[],.tup [],[]⟩,[],none⟩]) base ⟨(d,.tup [])::st.sl,st.ob,st.nx⟩ K):DZ P N ops ((p,o)::l) dn seg ys base st K:=
 .inl ⟨_,_,_,.inr (.inr ⟨j,dj,b,d,hg,hj,cX hdj,by rw[ht];exact hb,hd,cX hN,by rw[ht],rfl⟩),.refl _,h'⟩
theorem jp {st0 st1:St} (hg:o.guard=none) (h:AWO P N o st0 st1):BO P N ops o st0 st1:=.inl ⟨hg,h⟩
theorem b7 {s:St}:dO N s s:=λ_ E _ _ h=>⟨E,h⟩
theorem AU {st0 st1 st2:St} (hs:Am ops dn seg ys=true) (hkl:kls ys=[]) (hb:Jo ops (seg++dn) p=true) (hw:dO N st st0) (h:BO P N ops o st0 st1) (hw2:dO N st1 st2) {dn':List Nat} (hlo:p::(seg++dn)=dn') (h':DZ P N ops l dn' [] [] st2 st2 K):DZ P N ops ((p,o)::l) dn seg ys base st K:=by
 subst hlo
 exact .inr ⟨hs,hb,st,st0,st1,st2,Do hkl,hw,h,hw2,h'⟩
end
section
variable {P:Program} {N:Nat} {ops:Array Oper} {l:List (Nat×Oper)} {o:Oper} {sl:List (Nat×T)} {ob:List (Nat×Ob)} {nx:Nat} {base:St} {K:St->Prop} {ys:List Inx} {dn seg:List Nat} {p:Nat}
theorem zgs {j:Nat} {dj d:Tmp} {b:Bool} {t:T} (hg:o.guard=some (j,b)) (hj:(ops[j]?).bind (·.dst)=some dj) (hdj:nlt dj N=true) (ht:gt sl dj=t) (hb:noG b t=true) (hd:o.dst=some d) (hN:nlt d N=true)
 (h':DZ P N ops l dn (seg++[p]) (ys++[⟨⟨d,[(.tmp dj,t)],[],.tup [],[]⟩,[],none⟩]) base ⟨(d,.tup [])::sl,ob,nx⟩ K):DZ P N ops ((p,o)::l) dn seg ys base ⟨sl,ob,nx⟩ K:=Vi (st:=⟨sl,ob,nx⟩) hg hj hdj ht hb hd hN h'
theorem cwx {d:Tmp} {ty:TypeId} {ps:String} {af:Array Edge} {gd:Option (Nat×Bool)} {f:FuncId} {args:List Operand} {tys:Array TypeId} {ob':List (Nat×Ob)} {o:Nat} {x0 x1 y:Ob} {ts ts':List T} {eqs:List (Nat×Nat)} {res:List RV} {out:T} {nw:List (Nat×Ob)} {n:Nat}
 (hF:FnW P f x1 ts' y res) (ht:Bj sl args=some ts:=by exact rfl) (ho:go ob o=some x0:=by exact rfl) (hl:x0.loc=x1:=by exact rfl) (hfx:x0.free=true:=by exact rfl) (hfy:y.free=true:=by exact rfl) (ha:BM [] o ts=some (ts',eqs):=by exact rfl) (he:Eqs eqs:=by repeat (first|exact trivial|refine⟨by first|rfl|exact lm _|simp,?_⟩)) (hi:Fo nx res=some (out,nw,n):=by exact rfl) (hw:Mw nx nw n=true:=by exact rfl) (hN:nlt d N=true:=by exact rfl) (hob:apO nw ((o,y)::ob)=some ob':=by exact rfl):
 NX P N ⟨some d,.call ⟨.value (.func f),args.toArray,tys⟩,ty,ps,af,gd⟩ ⟨sl,ob,nx⟩ ⟨(d,out)::sl,ob',n⟩ ⟨⟨d,args.zip ts,[(o,x0)],out,nw⟩,[(o,y)],none⟩:=by
 subst hl
 rw[vZ hob]
 obtain⟨t1,t2⟩:=sP ht
 exact⟨uH (Pm hF t1 hfx hfy ha he hi),.inl ⟨rfl,cX hN⟩,t2,⟨ho,trivial⟩,CL hw,rfl⟩
theorem zp {cx:Cx} {E:Env} {w:World} {o b c:Nat} {cs:Array Value} (ok:c8 cx E w) (hr:E.r o=some (b,c)) (hF:¬E.F b):c8 cx E (w.setRow b cs):=by
 have hsz:(w.setRow b cs).heap.size=w.heap.size:=by simp
 refine⟨λk hk=>by rw[hsz];exact ok.fb k hk,ok.gf,ok.gn,λo b c h=>by rw[hsz];exact ok.rb o b c h,ok.inj,ok.os,ok.tape,ok.output,by rw[hsz];exact ok.size,λk hk hW=>?_,ok.pin,ok.ff,λk hg hk'=>(ok.gc k hg hk').of_eq (dF w b k cs (λe=>hF (by subst e;exact hg))),ok.sf.setRow hr⟩
 rw[dF _ _ _ _ (λe=>by
  subst e
  rcases(ok.rb o k c hr).2 with h|h
  .omega
  exact hW h.1)]
 exact ok.block k hk hW
theorem JJ {cx:Cx} {E:Env} {w:World} {o b c:Nat} {cs:Array Value} {ob':Ob} (ok:c8 cx E w) (hr:E.r o=some (b,c)) (hF:¬E.F b):Pg [(o,ob')] E w E (w.setRow b cs):=by
 refine⟨λ_ _ h=>h,λ_ h=>h,λ_ h=>h,λ_ h=>.inl h,λk hk hne=>dF w b k cs (λe=>?_),λl ob k c' hm h=>?_,rfl,rfl,rfl⟩
 .subst e;exact hne o ob' c (by simp) hr
 simp at hm;obtain⟨rfl,_⟩:=hm;rw[hr] at h;cases h;exact hF
theorem spx {ty:TypeId} {ps:String} {af:Array Edge} {gd:Option (Nat×Bool)} {x y:Operand} {t:TypeId} {n o k:Nat} {vt:TypeId} {cs cs' ns:List C} {v:V} (q:Nat) (hq:Zi N q=true:=by exact rfl) [ht:TyN P t n] (hx:opT sl x= .v (.c (.p o k)):=by exact rfl) (hy:opT sl y= .v v:=by exact rfl) (ho:go ob o=some (.var vt cs):=by exact rfl) (hv:vcs v=some ns:=by exact rfl)
 (hn:YN ns.length n=true:=by exact rfl) (hst:ns.all C.sto=true:=by exact rfl) (hs:uA k ns cs=some cs':=by exact rfl):
 NX P N ⟨none,.store t x y,ty,ps,af,gd⟩ ⟨sl,ob,nx⟩ ⟨(q,.any)::sl,(o,.var vt cs')::ob,nx⟩ ⟨⟨q,[(x,.v (.c (.p o k))),(y,.v v)],[(o,.var vt cs)],.any,[]⟩,[(o,.var vt cs')],none⟩:=by
 refine⟨uH ?_,.inr ⟨rfl,Zx hq,rfl⟩,⟨hx,hy,trivial⟩,⟨ho,trivial⟩,rfl,rfl⟩
 intro cx E a w ok hne hnob hfr
 have h1:cvT E w (.v (.c (.p o k))) (a.eval x):=hne x _ (.head _)
 have h2:cvT E w (.v v) (a.eval y):=hne y _ (.tail _ (.head _))
 obtain⟨b,c,hr,hu⟩:=h1
 have h3:cP E w o (.var vt cs):=hnob o _ (.head _)
 obtain⟨b',c',arr,hr',hh,hcv,hF⟩:=h3
 rw[hr] at hr';cases hr'
 have hvc:=IP hv h2
 have hl1:=jd hvc
 have hl2:=jd hcv
 have hnn:=YT hn
 have hle:=(s4 hs).2
 have hsz:(a.eval y).cells.size=n:=by simp at hl1;omega
 have hrun:=s5 (P:=P) (t:=t) (n:=n) (k:=k) hsz (QQ hv hst h2) hh (by simp at hl2;omega)
 unfold Oper.wp
 simp only[execOp,hu,Sem.run_bind,hrun,Result.andThen_ok,Sem.run_pure,Oper.upon_skip,Act.put]
 have hk:=jH (cs:=(arr.toList.take k++(a.eval y).cells.toList++arr.toList.drop (k+n)).toArray) (w:=w) ok hr hF
 refine⟨undef,E,trivial,zp ok hr hF,?_,trivial,(λ_ _ h=>by cases h),λl ob' hm=>?_,λl p h=>.inl h⟩
 .exact JJ ok hr hF
 simp at hm;obtain⟨rfl,rfl⟩:=hm
 refine⟨b,c,_,hr,iR _ hh,?_,hF⟩
 refine qP hk (AE hs hvc hcv ?_ λi=>?_)
 .simp at hl2 ⊢;omega
 rw[show(arr.toList.take k++(a.eval y).cells.toList++arr.toList.drop (k+n)).toArray.toList=arr.toList.take k++(a.eval y).cells.toList++arr.toList.drop (k+n) from rfl]
 exact mg (by simpa using hsz) (by simp at hl2 ⊢;omega) i
end
open Go.RowKit
def sw (p q l:Nat):Nat:=bif YN l p then q else bif YN l q then p else l
theorem Hu (a b:Nat):YN a b=decide (a=b):=by
 by_cases h:a=b
 .subst h;simp
 rw[tc h];simp[h]
theorem ET (p q l:Nat):sw p q (sw p q l)=l:=by
 unfold sw
 simp only[Hu]
 by_cases h1:l=p
 .subst h1
  by_cases h2:q=l
  .simp[h2]
  simp[h2]
 by_cases h2:l=q
 .subst h2;simp[h1]
 simp[h1,h2]
theorem Yx {p q a b:Nat} (h:sw p q a=sw p q b):a=b:=by rw[<-ET p q a,h,ET]
theorem Uk {p q:Nat} (hp:rsv p=false) (hq:rsv q=false) (l:Nat):(rsv l=true->sw p q l=l)/\(rsv (sw p q l)=true->sw p q l=l):=by
 unfold sw
 simp only[Hu]
 by_cases h1:l=p
 .subst h1;simp[hp,hq]
 by_cases h2:l=q
 .subst h2;simp[h1,hp,hq]
 simp[h1,h2]
theorem sw_lt {p q n:Nat} (hp:p<n) (hq:q<n) {l:Nat} (h:sw p q l<n):l<n:=by
 rw[<-ET p q l]
 generalize sw p q l=m at h
 unfold sw
 simp only[Hu]
 by_cases h1:m=p
 .subst h1;simp[hq]
 by_cases h2:m=q
 .subst h2;simp[h1,hp]
 simp[h1,h2,h]
def swC (p q:Nat):C->C
 | .w o n=>.w (sw p q o) n
 | .wn o n=>.wn (sw p q o) n
 | .s o a b c=>.s (sw p q o) a b c
 | .p o k=>.p (sw p q o) k
 | .e o a b c=>.e (sw p q o) a b c
 |c=>c
def Wj (p q:Nat):List C->List C
 |[]=>[]
 |c::cs=>swC p q c::Wj p q cs
def swV (p q:Nat):V->V
 | .c c=>.c (swC p q c)
 | .agg cs=>.agg (Wj p q cs)
def Yw (p q:Nat):List V->List V
 |[]=>[]
 |c::cs=>swV p q c::Yw p q cs
def swT (p q:Nat):T->T
 | .v v=>.v (swV p q v)
 | .tup vs=>.tup (Yw p q vs)
 | .any=>.any
def Yu (p q:Nat):Ob->Ob
 | .var t cs=>.var t (Wj p q cs)
 |o=>o
def swS (p q:Nat):List (Nat×T)->List (Nat×T)
 |[]=>[]
 |(k,t)::r=>(k,swT p q t)::swS p q r
def swO (p q:Nat):List (Nat×Ob)->List (Nat×Ob)
 |[]=>[]
 |(k,t)::r=>(sw p q k,Yu p q t)::swO p q r
def Env.sw (E:Env) (p q:Nat):Env:={E with r:=λl=>E.r (AM.sw p q l),n:=λl=>E.n (AM.sw p q l)}
theorem Ui {E:Env} {w:World} {p q:Nat} {c:C} {u:Value} (h:cvC E w c u):cvC (E.sw p q) w (swC p q c) u:=by
 have e:∀o,(E.sw p q).r (sw p q o)=E.r o:=λo=>by simp[Env.sw,ET]
 cases c with
 |w o n=>obtain⟨b,c,h1,h2⟩:=h;exact⟨b,c,(e o).trans h1,h2⟩
 |wn o n=>
  have e2:(E.sw p q).n (sw p q o)=E.n o:=by simp[Env.sw,ET]
  rcases h with⟨h1,h2⟩|⟨h0,b,c,h1,h2⟩
  .exact .inl ⟨by rw[e2];exact h1,h2⟩
  exact .inr ⟨by rw[e2];exact h0,b,c,(e o).trans h1,h2⟩
 |s o a b c=>obtain⟨A,c',b',k,h1,h2⟩:=h;exact⟨A,c',b',k,(e o).trans h1,h2⟩
 |p o k=>obtain⟨b,c,h1,h2⟩:=h;exact⟨b,c,(e o).trans h1,h2⟩
 |e o a b c=>obtain⟨b',c',h1,h2⟩:=h;exact⟨b',c',(e o).trans h1,h2⟩
 |_=>exact h
theorem IJ {E:Env} {w:World} {p q:Nat}:∀{cs:List C} {us:List Value},CV E w cs us->CV (E.sw p q) w (Wj p q cs) us
 |[],[],h=>h
 |[],_::_,h=>h.elim
 |_::_,[],h=>h.elim
 |_::_,_::_,h=>⟨Ui h.1,IJ h.2⟩
theorem Uj {E:Env} {w:World} {p q:Nat} {c:V} {u:Value} (h:cvV E w c u):cvV (E.sw p q) w (swV p q c) u:=by
 cases c with
 |c c=>exact Ui h
 |agg cs=>obtain⟨arr,h1,h2⟩:=h;exact⟨arr,h1,IJ h2⟩
theorem O4 {E:Env} {w:World} {p q:Nat}:∀{cs:List V} {us:List Value},VV E w cs us->VV (E.sw p q) w (Yw p q cs) us
 |[],[],h=>h
 |[],_::_,h=>h.elim
 |_::_,[],h=>h.elim
 |_::_,_::_,h=>⟨Uj h.1,O4 h.2⟩
theorem Yv {E:Env} {w:World} {p q:Nat} {t:T} {u:Value} (h:cvT E w t u):cvT (E.sw p q) w (swT p q t) u:=by
 cases t with
 |v v=>exact Uj h
 |tup vs=>obtain⟨arr,h1,h2⟩:=h;exact⟨arr,h1,O4 h2⟩
 |any=>trivial
theorem Wk {E:Env} {w:World} {p q o:Nat} {ob:Ob} (h:cP E w (sw p q o) ob):cP (E.sw p q) w o (Yu p q ob):=by
 cases ob with
 |var t cs=>obtain⟨b,c,arr,h1,h2,h3,h4⟩:=h;exact⟨b,c,arr,h1,h2,IJ h3,h4⟩
 |row t sz els g m=>exact h
 |rown t sz els g=>exact h
 |abs l y=>exact h
theorem Sk {p q:Nat}:∀(sl:List (Nat×T)) (k:Nat),gt (swS p q sl) k=swT p q (gt sl k)
 |[],k=>rfl
 |(j,t)::r,k=>by
  simp only[swS,gt]
  cases YN j k
  .exact Sk r k
  rfl
theorem Si {p q:Nat}:∀(ob:List (Nat×Ob)) (o:Nat),go (swO p q ob) o=(go ob (sw p q o)).map (Yu p q)
 |[],o=>rfl
 |(j,t)::r,o=>by
  simp only[swO,go,Hu]
  by_cases h:j=sw p q o
  .subst h;simp[ET]
  have h2:sw p q j≠o:=λe=>h (by rw[<-e,ET])
  simp only[h,h2,decide_false,cond_false]
  exact Si r o
theorem Lt {N p q nx:Nat} {sl:List (Nat×T)} {ob:List (Nat×Ob)} (hp:rsv p=false:=by exact rfl) (hq:rsv q=false:=by exact rfl) (hpn:nlt p nx=true:=by exact rfl) (hqn:nlt q nx=true:=by exact rfl):dO N ⟨sl,ob,nx⟩ ⟨swS p q sl,swO p q ob,nx⟩:=by
 intro cx E a w hR
 have ok:=hR.ok
 refine⟨E.sw p q,⟨ok.fb,ok.gf,ok.gn,λo b c h=>?_,λo o' b c c' h h'=>Yx (ok.inj _ _ _ _ _ h h'),ok.os,ok.tape,ok.output,ok.size,ok.block,λo x hr h=>?_,ok.ff,ok.gc,?_⟩,λo x h=>sw_lt (cX hpn) (cX hqn) (hR.dom _ x h),λo ob' h=>?_,λk=>?_,hR.dfr,hR.size,hR.td⟩
 .obtain⟨h1,h2⟩:=ok.rb _ b c h
  refine⟨h1,h2.imp id λh3=>⟨h3.1,?_⟩⟩
  have:=(Uk hp hq o).2 h3.2
  rw[this] at h3;exact h3.2
 .have h':E.r (sw p q o)=some x:=h
  rw[(Uk hp hq o).1 (In hr)] at h'
  exact ok.pin o x hr h'
 .have sf:=ok.sf
  exact⟨λl b h=>⟨(sf.tb l b h).1,(sf.tb l b h).2.1,λo c=>(sf.tb l b h).2.2.1 _ c,(sf.tb l b h).2.2.2⟩,sf.tt,λb h=>⟨(sf.zc b h).1,(sf.zc b h).2.1,λo c=>(sf.zc b h).2.2.1 _ c,(sf.zc b h).2.2.2⟩,sf.zs,sf.ze⟩
 .rw[Si] at h
  cases hg:go ob (sw p q o) with
  |none=>rw[hg] at h;cases h
  |some x=>rw[hg] at h;cases h;exact Wk (hR.obs _ x hg)
 rw[Sk];exact Yv (hR.sl k)
def wnC (o n:Nat):C->C
 | .w k m=>bif YN k o then .w k n else .w k m
 | .wn k m=>bif YN k o then .wn k n else .wn k m
 |c=>c
def UN (o n:Nat):C->List (Nat×Nat)
 | .w k m=>bif YN k o then [(m,n)] else []
 | .wn k m=>bif YN k o then [(m,n)] else []
 |_=>[]
def UM (o n:Nat):List C->List C
 |[]=>[]
 |c::cs=>wnC o n c::UM o n cs
def Lv (o n:Nat):List C->List (Nat×Nat)
 |[]=>[]
 |c::cs=>UN o n c++Lv o n cs
def wnT (o n:Nat):T->T
 | .v (.c c)=>.v (.c (wnC o n c))
 | .v (.agg cs)=>.v (.agg (UM o n cs))
 |t=>t
def YL (o n:Nat):T->List (Nat×Nat)
 | .v (.c c)=>UN o n c
 | .v (.agg cs)=>Lv o n cs
 |_=>[]
def wnS (o n:Nat):List (Nat×T)->List (Nat×T)
 |[]=>[]
 |(k,t)::r=>(k,wnT o n t)::wnS o n r
def QL (o n:Nat):List (Nat×T)->List (Nat×Nat)
 |[]=>[]
 |(_,t)::r=>YL o n t++QL o n r
def wnO (o n:Nat):List (Nat×Ob)->List (Nat×Ob)
 |[]=>[]
 |(k,.var t cs)::r=>(k,.var t (UM o n cs))::wnO o n r
 |p::r=>p::wnO o n r
def Nd (o n:Nat):List (Nat×Ob)->List (Nat×Nat)
 |[]=>[]
 |(_,.var _ cs)::r=>Lv o n cs++Nd o n r
 |_::r=>Nd o n r
theorem UL {E:Env} {w:World} {o n:Nat} {c:C} {u:Value} (he:Eqs (UN o n c)) (h:cvC E w c u):cvC E w (wnC o n c) u:=by
 cases c with
 |w k m=>
  simp only[wnC,UN] at he ⊢
  cases hk:YN k o with
  |false=>exact h
  |true=>rw[hk] at he;have:m=n:=he.1;subst this;exact h
 |wn k m=>
  simp only[wnC,UN] at he ⊢
  cases hk:YN k o with
  |false=>exact h
  |true=>rw[hk] at he;have:m=n:=he.1;subst this;exact h
 |_=>exact h
theorem IR {E:Env} {w:World} {o n:Nat}:∀{cs:List C} {us:List Value},Eqs (Lv o n cs)->CV E w cs us->CV E w (UM o n cs) us
 |[],[],_,h=>h
 |[],_::_,_,h=>h.elim
 |_::_,[],_,h=>h.elim
 |_::_,_::_,he,h=>by obtain⟨h1,h2⟩:=eG he;exact⟨UL h1 h.1,IR h2 h.2⟩
theorem YM {E:Env} {w:World} {o n:Nat} {t:T} {u:Value} (he:Eqs (YL o n t)) (h:cvT E w t u):cvT E w (wnT o n t) u:=by
 cases t with
 |v v=>
  cases v with
  |c c=>exact UL he h
  |agg cs=>obtain⟨arr,h1,h2⟩:=h;exact⟨arr,h1,IR he h2⟩
 |_=>exact h
theorem UJ {N o n nx:Nat} {sl:List (Nat×T)} {ob:List (Nat×Ob)} (he:Eqs (QL o n sl)) (he2:Eqs (Nd o n ob)):dO N ⟨sl,ob,nx⟩ ⟨wnS o n sl,wnO o n ob,nx⟩:=by
 intro cx E a w hR
 refine⟨E,hR.ok,hR.dom,λp x h=>?_,λk=>?_,hR.dfr,hR.size,hR.td⟩
 .have key:∀(ob:List (Nat×Ob)) (x:Ob),Eqs (Nd o n ob)->go (wnO o n ob) p=some x->∃y,go ob p=some y/\(cP E w p y->cP E w p x):=by
   intro ob
   induction ob with
   |nil=>intro x _ h;cases h
   |cons q r ih=>
    intro x he h
    obtain⟨k,v⟩:=q
    cases v with
    |var t cs=>
     obtain⟨h1,h2⟩:=eG (show Eqs (Lv o n cs++Nd o n r) from he)
     simp only[wnO,go] at h ⊢
     cases hk:YN k p with
     |false=>rw[hk] at h;exact ih x h2 h
     |true=>
      rw[hk] at h
      cases h
      exact⟨_,rfl,λ⟨b,c,arr,k1,k2,k3,k4⟩=>⟨b,c,arr,k1,k2,IR h1 k3,k4⟩⟩
    |row t sz els g m=>
     simp only[wnO,go] at h ⊢
     cases hk:YN k p with
     |false=>rw[hk] at h;exact ih x he h
     |true=>rw[hk] at h;cases h;exact⟨_,rfl,id⟩
    |rown t sz els g=>
     simp only[wnO,go] at h ⊢
     cases hk:YN k p with
     |false=>rw[hk] at h;exact ih x he h
     |true=>rw[hk] at h;cases h;exact⟨_,rfl,id⟩
    |abs l y=>
     simp only[wnO,go] at h ⊢
     cases hk:YN k p with
     |false=>rw[hk] at h;exact ih x he h
     |true=>rw[hk] at h;cases h;exact⟨_,rfl,id⟩
  obtain⟨y,h1,h2⟩:=key ob x he2 h
  exact h2 (hR.obs p y h1)
 have key:∀(sl:List (Nat×T)),Eqs (QL o n sl)->(cvT E w (gt sl k) (a.tmps.getD k undef)->cvT E w (gt (wnS o n sl) k) (a.tmps.getD k undef)):=by
  intro sl
  induction sl with
  |nil=>intro _ h;exact h
  |cons q r ih=>
   intro he h
   obtain⟨j,t⟩:=q
   obtain⟨h1,h2⟩:=eG (show Eqs (YL o n t++QL o n r) from he)
   simp only[wnS,gt] at h ⊢
   cases hj:YN j k with
   |false=>rw[hj] at h;exact ih h2 h
   |true=>rw[hj] at h;exact YM h1 h
 exact key sl he (hR.sl k)
theorem clo_w {N:Nat} {AQ:Exit->St->Prop} {e:Exit} {s m:St} [c:Clo N AQ] (hw:dO N s m) (h:AQ e m):AQ e s:=c.h _ _ _ hw h
def nlC:C->C
 | .nil=>.d true (.l [])
 |c=>c
def X2:List C->List C
 |[]=>[]
 |c::cs=>nlC c::X2 cs
theorem X1 {E:Env} {w:World} {c:C} {u:Value} (h:cvC E w c u):cvC E w (nlC c) u:=by
 cases c with
 |nil=>
  have h:u= .slice none 0 0:=h
  subst h
  show rdD _ _ _ _
  rw[rdD]
  exact⟨none,0,rfl,YW _,.inl rfl⟩
 |_=>exact h
theorem Ou {E:Env} {w:World}:∀{cs:List C} {us:List Value},CV E w cs us->CV E w (X2 cs) us
 |[],[],h=>h
 |[],_::_,h=>h.elim
 |_::_,[],h=>h.elim
 |_::_,_::_,h=>⟨X1 h.1,Ou h.2⟩
theorem UH {N nx o:Nat} {sl:List (Nat×T)} {ob:List (Nat×Ob)} {ty:TypeId} {cs:List C} (ho:go ob o=some (.var ty cs):=by exact rfl):dO N ⟨sl,ob,nx⟩ ⟨sl,(o,.var ty (X2 cs))::ob,nx⟩:=by
 intro cx E a w hR
 refine⟨E,hR.ok,hR.dom,λp x h=>?_,hR.sl,hR.dfr,hR.size,hR.td⟩
 by_cases hp:o=p
 .subst hp
  rw[cz] at h;cases h
  obtain⟨b,c,arr,h1,h2,h3,h4⟩:=hR.obs o _ ho
  exact⟨b,c,arr,h1,h2,Ou h3,h4⟩
 rw[bH _ _ hp] at h;exact hR.obs p x h
def xU (o n:Nat):List (Nat×T)->Option (List (Nat×T))
 |[]=>some []
 |(k,.v (.c c))::r=>match xU o n r with
  |some r'=>match c with
   | .w q m=>bif YN q o then some ((k,.v (.c (.w q n)))::r') else some ((k,.v (.c (.w q m)))::r')
   | .wn q m=>bif YN q o then some ((k,.v (.c (.wn q n)))::r') else some ((k,.v (.c (.wn q m)))::r')
   |c=>some ((k,.v (.c c))::r')
  |none=>none
 |(k,t)::r=>match xU o n r with
  |some r'=>some ((k,wnT o n t)::r')
  |none=>none
theorem Pc {o n:Nat}:∀{sl sl':List (Nat×T)},xU o n sl=some sl'->sl'=wnS o n sl
 |[],sl',h=>by simp[xU] at h;subst h;rfl
 |(k,t)::r,sl',h=>by
  cases hr:xU o n r with
  |none=>
   exfalso
   cases t with
   |v v=>cases v<;>simp[xU,hr] at h
   |tup vs=>simp[xU,hr] at h
   |any=>simp[xU,hr] at h
  |some r'=>
   have:=Pc hr
   subst this
   cases t with
   |v v=>
    cases v with
    |c c=>
     cases c with
     |w q m=>
      simp only[xU,hr] at h
      simp only[wnS,wnT,wnC]
      cases hq:YN q o<;>rw[hq] at h<;>cases h<;>rfl
     |wn q m=>
      simp only[xU,hr] at h
      simp only[wnS,wnT,wnC]
      cases hq:YN q o<;>rw[hq] at h<;>cases h<;>rfl
     |_=>simp only[xU,hr] at h;cases h;rfl
    |agg cs=>simp only[xU,hr] at h;cases h;rfl
   |tup vs=>simp only[xU,hr] at h;cases h;rfl
   |any=>simp only[xU,hr] at h;cases h;rfl
def IS (o n:Nat):List (Nat×Ob)->Option (List (Nat×Ob))
 |[]=>some []
 |(k,.var t cs)::r=>match IS o n r with
  |some r'=>some ((k,.var t (UM o n cs))::r')
  |none=>none
 |p::r=>match IS o n r with
  |some r'=>some (p::r')
  |none=>none
theorem Pb {o n:Nat}:∀{sl sl':List (Nat×Ob)},IS o n sl=some sl'->sl'=wnO o n sl
 |[],sl',h=>by simp[IS] at h;subst h;rfl
 |(k,t)::r,sl',h=>by
  cases hr:IS o n r with
  |none=>exfalso;cases t<;>simp[IS,hr] at h
  |some r'=>
   have:=Pb hr
   subst this
   cases t<;>simp only[IS,hr] at h<;>cases h<;>rfl
theorem uD {N o n nx:Nat} {sl sl':List (Nat×T)} {ob ob':List (Nat×Ob)} (hs:xU o n sl=some sl':=by exact rfl) (ho:IS o n ob=some ob':=by exact rfl) (he:Eqs (QL o n sl):=by repeat (first|exact trivial|refine⟨by first|rfl|simp,?_⟩)) (he2:Eqs (Nd o n ob):=by repeat (first|exact trivial|refine⟨by first|rfl|simp,?_⟩)):dO N ⟨sl,ob,nx⟩ ⟨sl',ob',nx⟩:=by
 rw[Pc hs,Pb ho];exact UJ he he2
open Go.RowKit
section
variable {P:Program} {N:Nat} {d:Tmp} {ty:TypeId} {ps:String} {af:Array Edge} {gd:Option (Nat×Bool)} {x y z:Operand}
def Env.mv (E:Env) (o q b c:Nat):Env:={E with r:=λl=>if l=q then some (b,c) else if l=o then none else E.r l}
theorem J7 {t:TypeId} {e sz by_ o q n:Nat} {els ys:List (List D)} {g gy:Bool} {c:C} {nob:List (Nat×Ob)} [ht:TySl P t e sz by_] (hrv:rsv o=false)
 (ho:go nob o=some (.row e sz els g true)) (hs:Src nob c ys gy) (hn:els.length=n) (hsz:∀e∈ys,e.length=sz) (hb:(n+ys.length)*by_<=140737488355328) (h63:n+ys.length<=9223372036854775807):
 AWK P ⟨some d,.call ⟨.builtin .append,#[x,y],#[t,t]⟩,ty,ps,af,gd⟩ [(x,.v (.c (.w o n))),(y,.v (.c c))] nob (.v (.c (.w q (n+ys.length)))) [(q,.row e sz (els++ys) (g&&gy) true)] [] (some o):=by
 intro cx E a w ok hne hnob hfr
 have hob:∀l x,go nob l=some x->cP E w l x:=λl x h=>hnob l x (A4 h)
 obtain⟨hq1,hq2⟩:=hfr q _ (.head _)
 have h1:cvT E w (.v (.c (.w o n))) (a.eval x):=hne x _ (.head _)
 have h2:cvT E w (.v (.c c)) (a.eval y):=hne y _ (.tail _ (.head _))
 obtain⟨b,cc,hr,hu⟩:=h1
 obtain⟨b',c',arr,hr',hh,ha,hlc,hmx,hes,hrd,hFm,_⟩:=hob o _ ho
 rw[hr] at hr';cases hr'
 have hF:=hFm rfl
 have hoq:o≠q:=λe=>by rw[e,hq1] at hr;cases hr
 obtain⟨A,k,hv,hyk,hA⟩:=IG hob hs h2
 obtain⟨ii,zz,i1,i2,i3,i4,i5⟩:=ht.i
 have hbl:=(ok.rb o b cc hr)
 have hown:w.ownsRow 0 e sz (.slice (some ⟨b,0,none⟩) n cc) n (arr.toList.take (n*sz)):=
  ⟨by simp[ha];rw[Zj oaa],.inr ⟨b,cc,arr,rfl,Y0 _,hh,by omega,hmx,ha,rfl⟩⟩
 have hsrc:∃news:List Value,news.length=ys.length*sz/\(∀u∈news,u.oneCell'=true)/\(∀(j:Nat) (xd:D),ys.flatten[j]?=some xd->∃u,news[j]?=some u/\rdD w (E.H gy) xd u)/\
  ∃v' w',(Builtin.append_ #[t,t] ty #[.slice (some ⟨b,0,none⟩) n cc,.slice A ys.length k]).run P w= .ok v' w'/\w'.ownsRow 0 e sz v' (n+ys.length) (arr.toList.take (n*sz)++news)/\w.grownBy w' (some b)/\v'≠.slice none 0 0/\(v'.ownBlock=some b\/v'.ownBlock=some w.heap.size):=by
  have hgood:∀ad,A=some ad->∀news:List Value,news.length=ys.length*sz->(∀(j:Nat) (u:Value),news[j]?=some u->w.cell? (ad.add j)=some u)->(∀u∈news,u.oneCell'=true)->
   ∃v' w',(Builtin.append_ #[t,t] ty #[.slice (some ⟨b,0,none⟩) n cc,.slice A ys.length k]).run P w= .ok v' w'/\w'.ownsRow 0 e sz v' (n+ys.length) (arr.toList.take (n*sz)++news)/\w.grownBy w' (some b)/\v'≠.slice none 0 0/\(v'.ownBlock=some b\/v'.ownBlock=some w.heap.size):=by
   intro ad hAd news n1 n2 n3
   obtain⟨v',w',r1,r2,r3,r4,r5⟩:=run_append_own_at (P:=P) w 0 t ty e ii zz sz by_ ht.u i1 i4 i2 i3 i5 ht.p _ n _ hown ad ys.length k news n1 n2 n3 (by unfold maxLen;omega) hb (Y0 _)
   exact⟨v',w',by rw[hAd];exact r1,r2,r3,(λh=>by have h9:=(r4.1 h).1;simp at h9),r5⟩
  rcases hA with h0|⟨b2,off,rfl,hrd2⟩
  .subst h0
   refine⟨[],by simp,by simp,by simp,?_⟩
   cases A with
   |none=>exact⟨_,w,xb w ht.u i1 hown k,by simpa using hown,⟨rfl,rfl,rfl,YW _,λ_ _ _=>rfl⟩,by simp,.inl rfl⟩
   |some ad=>exact hgood ad rfl [] (by simp) (by simp) (by simp)
  obtain⟨us,q1,q2,q3,q4⟩:=xa (ga.1 hrd2)
  exact⟨us,by rw[q1,iF hsz],q3,q4,hgood _ rfl us (by rw[q1,iF hsz]) q2 q3⟩
 obtain⟨news,n1,n2,n3,v',w',r1,r2,r3,r4,r5⟩:=hsrc
 obtain⟨_,r2⟩:=r2
 rcases r2 with⟨rfl,_⟩|⟨bn,cap,cur,rfl,_,hhn,hcap,hcapm,hcur,htk⟩
 .exact absurd rfl r4
 unfold Oper.wp
 simp only[execOp,resolve,invoke,builtin,Sem.run_bind,Sem.run_pure,Result.andThen_ok,aaa,Ze,ZV,hu,hv,r1,Oper.upon_value]
 have hbn:bn=b\/bn=w.heap.size:=by simpa [Value.ownBlock] using r5
 have hsame:∀k,k<w.heap.size->k≠b->w'.heap[k]?=w.heap[k]?:=λk hk hne=>r3.block k hk (λe=>hne (by injection e))
 have hnF:¬E.F bn:=by
  rcases hbn with rfl|rfl
  .exact hF
  exact λh=>by have:=ok.fb _ h;omega
 have hbig:bn<w'.heap.size:=by
  rcases Zb bn w'.heap.size with h|h
  .exact h
  rw[Zd h] at hhn;cases hhn
 have hnew:∀l bl cl,l≠o->E.r l=some (bl,cl)->bl≠bn:=by
  intro l bl cl hne hl e
  subst e
  rcases hbn with h|h
  .subst h;exact hne (ok.inj l o _ _ _ hl hr)
  have:=(ok.rb l bl cl hl).1;omega
 have hHb:∀g k,E.H g k->k≠b/\k<w.heap.size:=λg k hk=>⟨λe=>by subst e;cases g;exact hF hk;exact hF (ok.gf _ hk),ok.hb hk⟩
 have kH:∀(g:Bool) (k:Nat),E.H g k->w'.heap[k]?=w.heap[k]?:=λg k hk=>hsame k (hHb g k hk).2 (hHb g k hk).1
 have kI:∀(g:Bool) (k:Nat),E.H g k->(E.mv o q bn cap).H g k:=λ_ _ h=>h
 have hbnew:cx.w0.heap.size<=b:=by
  rcases hbl.2 with h|h
  .exact h
  rw[hrv] at h;cases h.2
 have hmv:∀l bl cl,(E.mv o q bn cap).r l=some (bl,cl)->(l=q/\bl=bn/\cl=cap)\/(l≠q/\l≠o/\E.r l=some (bl,cl)):=by
  intro l bl cl hl
  simp only[Env.mv] at hl
  split at hl
  .cases hl;exact .inl ⟨by assumption,rfl,rfl⟩
  split at hl
  .cases hl
  exact .inr ⟨by assumption,by assumption,hl⟩
 refine⟨_,E.mv o q bn cap,rfl,⟨λk hk=>Zg (ok.fb k hk) r3.size,ok.gf,ok.gn,λl bl cl hl=>?_,λl l' bl cl cl' hl hl'=>?_,by rw[r3.os];exact ok.os,by rw[r3.tape];exact ok.tape,by rw[r3.output];exact ok.output,ZY ok.size r3.size,λk hk hW=>?_,λl xx hv hl=>?_,ok.ff,λk hk hk'=>(ok.gc k hk hk').of_eq (hsame k (hHb false k hk).2 (hHb false k hk).1),ok.sf.turn hr rfl rfl (λ_ h=>.inl h) (λl bl cl hl=>?_) r3.size hsame⟩,
  ⟨λl xx hl hlr=>?_,λ_ h=>h,λ_ h=>h,λ_ h=>.inl h,λk hk _ hkl=>hsame k hk (λe=>hkl o cc rfl (e▸hr)),(λ_ _ _ _ h=>by cases h),λl bl cl hl hlr=>?_,rfl,rfl,rfl⟩,⟨bn,cap,by simp[Env.mv],rfl⟩,λl ob hm=>?_,(λ_ _ h=>by cases h),λl xx hl=>?_⟩
 .rcases hmv l bl cl hl with⟨_,rfl,rfl⟩|⟨_,_,hl⟩
  .refine⟨hbig,.inl ?_⟩
   rcases hbn with h|h
   .rw[h];exact hbnew
   rw[h];exact ok.size
  have:=ok.rb l bl cl hl;exact⟨Zg this.1 r3.size,this.2⟩
 .rcases hmv l bl cl hl with⟨h1,h2,h3⟩|⟨h1,h2,h3⟩<;>rcases hmv l' bl cl' hl' with⟨k1,k2,k3⟩|⟨k1,k2,k3⟩
  .omega
  .exact absurd h2 (hnew l' _ _ k2 k3)
  .exact absurd k2 (hnew l _ _ h2 h3)
  exact ok.inj l l' bl cl cl' h3 k3
 .rw[hsame k (by have:=ok.size;omega) oaa];exact ok.block k hk hW
 .obtain⟨bl,cl⟩:=xx
  rcases hmv l bl cl hl with⟨rfl,_⟩|⟨_,_,hl⟩
  .rw[sQ hq2] at hv;cases hv
  exact ok.pin l _ hv hl
 .rcases hmv l bl cl hl with⟨_,rfl,_⟩|⟨_,_,hl⟩
  .rcases hbn with h|h
   .left;exact⟨o,_,h▸hr⟩
   right;omega
  exact .inl ⟨l,cl,hl⟩
 .simp only[Env.mv]
  rw[if_neg (λe=>by rw[e,hq1] at hlr;cases hlr),if_neg (λe=>hl (by rw[e]))]
  exact hlr
 .cases hl
  rw[hr] at hlr;cases hlr;exact hF
 .simp at hm;obtain⟨rfl,rfl⟩:=hm
  have hall:∀e'∈els++ys,e'.length=sz:=λe' he'=>by
   rcases YR.1 he' with h|h
   .exact hes e' h
   exact hsz e' h
  refine⟨bn,cap,cur,by simp[Env.mv],hhn,hcur,by simp;omega,hcapm,hall,?_,λ_=>hnF,λh=>by cases h⟩
  rw[ga]
  refine oE λj xd hj=>?_
  rw[Y7,eZ hhn]
  rw[Z2] at hj
  have hfl:els.flatten.length=n*sz:=by rw[iF hes,hn]
  have hxs:(arr.toList.take (n*sz)).length=n*sz:=by simp[ha];rw[Zj oaa]
  have hcurj:∀u,(arr.toList.take (n*sz)++news)[j]?=some u->cur[j]?=some u:=by
   intro u hu
   rw[<-htk,Za] at hu
   split at hu
   .simpa using hu
   cases hu
  by_cases hjn:j<n*sz
  .rw[YZ oaa] at hj
   obtain⟨u,u1,u2⟩:=nR (ga.1 hrd) hj
   rw[Y7,eZ hh] at u1
   refine⟨u,hcurj u ?_,cF (kH _) (kI _) _ _ (qj ok u2 (by simp;intro a _;exact a))⟩
   rw[YZ oaa,Za,if_pos hjn]
   simpa using u1
  rw[Y1 oaa,hfl] at hj
  obtain⟨u,u1,u2⟩:=n3 _ _ hj
  refine⟨u,hcurj u ?_,cF (kH _) (kI _) _ _ (qj ok u2 (by simp))⟩
  rw[Y1 oaa,hxs]
  exact u1
 obtain⟨bl,cl⟩:=xx
 rcases hmv l bl cl hl with⟨rfl,_⟩|⟨_,_,hl⟩
 .exact .inr ⟨_,.head _⟩
 exact .inl hl
theorem vA {t:TypeId} {e sz by_ q:Nat} {ys:List (List D)} {gy:Bool} {c:C} {nob:List (Nat×Ob)} [ht:TySl P t e sz by_]
 (hs:Src nob c ys gy) (hne0:ys≠[]) (hsz:∀e∈ys,e.length=sz) (hb:ys.length*by_<=140737488355328) (h63:ys.length<=9223372036854775807)
 {cx:Cx} {E:Env} {a:Act} {w:World} (ok:c8 cx E w) (hob:∀l x,go nob l=some x->cP E w l x) (hq1:E.r q=none) (hq2:rsv q=false) (hu:a.eval x= .slice none 0 0) (h2:cvT E w (.v (.c c)) (a.eval y)):
 Oper.wp P ⟨some d,.call ⟨.builtin .append,#[x,y],#[t,t]⟩,ty,ps,af,gd⟩ a w (λa' w'=>∃v E',a'=a.put (some d) v/\c8 cx E' w'/\Ext E w E' w'/\cvT E' w' (.v (.c (.w q ys.length))) v/\(∀l ob,(l,ob)∈[(q,Ob.row e sz ys gy true)]->cP E' w' l ob)/\
  (∀l x,E'.r l=some x->E.r l=some x\/∃ob,(l,ob)∈[(q,Ob.row e sz ys gy true)])) (λ_ _ _=>False):=by
 obtain⟨A,k,hv,hyk,hA⟩:=IG hob hs h2
 obtain⟨ii,zz,i1,i2,i3,i4,i5⟩:=ht.i
 have hown:=World.ownsRow_nil w 0 e sz
 rcases hA with h0|⟨b2,off,rfl,hrd2⟩
 .exact absurd h0 hne0
 obtain⟨news,q1,q2,q3,n3⟩:=xa (ga.1 hrd2)
 have n1:news.length=ys.length*sz:=by rw[q1,iF hsz]
 obtain⟨v',w',r1,r2,r3,r4,r5⟩:=run_append_own_at (P:=P) w 0 t ty e ii zz sz by_ ht.u i1 i4 i2 i3 i5 ht.p _ 0 _ hown ⟨b2,off,none⟩ ys.length k news n1 q2 q3 (by unfold maxLen;omega) (by simpa using hb) (Y0 _)
 have hnn:v'≠.slice none 0 0:=λh=>hne0 (Zl (r4.1 h).2)
 obtain⟨_,r2⟩:=r2
 rcases r2 with⟨rfl,_⟩|⟨bn,cap,cur,rfl,_,hhn,hcap,hcapm,hcur,htk⟩
 .exact absurd rfl hnn
 simp only[Y7,ZR] at r1 hcap htk hnn r4 r5
 unfold Oper.wp
 simp only[execOp,resolve,invoke,builtin,Sem.run_bind,Sem.run_pure,Result.andThen_ok,aaa,Ze,ZV,hu,hv,r1,Oper.upon_value]
 have hbn:bn=w.heap.size:=by simpa [Value.ownBlock] using r5
 have hsame:∀k,k<w.heap.size->w'.heap[k]?=w.heap[k]?:=λk hk=>r3.block k hk (λe=>by simp[Value.ownBlock] at e)
 have hnF:¬E.F bn:=λh=>by have:=ok.fb _ h;omega
 have hbig:bn<w'.heap.size:=by
  rcases Zb bn w'.heap.size with h|h
  .exact h
  rw[Zd h] at hhn;cases hhn
 have kH:∀(g:Bool) (k:Nat),E.H g k->w'.heap[k]?=w.heap[k]?:=λg k hk=>hsame k (ok.hb hk)
 have kI:∀(g:Bool) (k:Nat),E.H g k->(E.new q bn cap).H g k:=λ_ _ h=>h
 have hmv:∀l bl cl,(E.new q bn cap).r l=some (bl,cl)->(l=q/\bl=bn/\cl=cap)\/(l≠q/\E.r l=some (bl,cl)):=by
  intro l bl cl hl
  simp only[Env.new] at hl
  split at hl
  .cases hl;exact .inl ⟨by assumption,rfl,rfl⟩
  exact .inr ⟨by assumption,hl⟩
 refine⟨_,E.new q bn cap,rfl,⟨λk hk=>Zg (ok.fb k hk) r3.size,ok.gf,ok.gn,λl bl cl hl=>?_,λl l' bl cl cl' hl hl'=>?_,by rw[r3.os];exact ok.os,by rw[r3.tape];exact ok.tape,by rw[r3.output];exact ok.output,ZY ok.size r3.size,λk hk hW=>?_,λl xx hv hl=>?_,ok.ff,λk hk hk'=>(ok.gc k hk hk').of_eq (hsame k (ok.fb k hk)),ok.sf.grow rfl rfl (λ_ h=>.inl h) (λl bl cl hl=>?_) r3.size hsame⟩,
  ⟨λl xx hlr=>?_,λ_ h=>h,λ_ h=>h,λ_ h=>.inl h,hsame,rfl,rfl,rfl⟩,⟨bn,cap,by simp[Env.new],rfl⟩,λl ob hm=>?_,λl xx hl=>?_⟩
 .rcases hmv l bl cl hl with⟨_,rfl,rfl⟩|⟨_,hl⟩
  .exact⟨hbig,.inl (by rw[hbn];exact ok.size)⟩
  have:=ok.rb l bl cl hl;exact⟨Zg this.1 r3.size,this.2⟩
 .rcases hmv l bl cl hl with⟨h1,h2,h3⟩|⟨h1,h3⟩<;>rcases hmv l' bl cl' hl' with⟨k1,k2,k3⟩|⟨k1,k3⟩
  .omega
  .have:=(ok.rb l' bl cl' k3).1;omega
  .have:=(ok.rb l bl cl h3).1;omega
  exact ok.inj l l' bl cl cl' h3 k3
 .rw[hsame k (by have:=ok.size;omega)];exact ok.block k hk hW
 .obtain⟨bl,cl⟩:=xx
  rcases hmv l bl cl hl with⟨rfl,_⟩|⟨_,hl⟩
  .rw[sQ hq2] at hv;cases hv
  exact ok.pin l _ hv hl
 .rcases hmv l bl cl hl with⟨_,rfl,_⟩|⟨_,hl⟩
  .right;omega
  exact .inl ⟨l,cl,hl⟩
 .simp only[Env.new]
  rw[if_neg (λe=>by rw[e,hq1] at hlr;cases hlr)]
  exact hlr
 .simp at hm;obtain⟨rfl,rfl⟩:=hm
  refine⟨bn,cap,cur,by simp[Env.new],hhn,hcur,by omega,hcapm,hsz,?_,λ_=>hnF,λh=>by cases h⟩
  rw[ga]
  refine oE λj xd hj=>?_
  rw[Y7,eZ hhn]
  obtain⟨u,u1,u2⟩:=n3 _ _ hj
  refine⟨u,?_,cF (kH _) (kI _) _ _ u2⟩
  have:=u1
  rw[<-htk,Za] at this
  split at this
  .simpa using this
  cases this
 obtain⟨bl,cl⟩:=xx
 rcases hmv l bl cl hl with⟨rfl,_⟩|⟨_,hl⟩
 .exact .inr ⟨_,.head _⟩
 exact .inl hl
theorem H6 {t:TypeId} {e sz by_ q:Nat} {ys:List (List D)} {gy:Bool} {c:C} {nob:List (Nat×Ob)} [ht:TySl P t e sz by_]
 (hs:Src nob c ys gy) (hne0:ys≠[]) (hsz:∀e∈ys,e.length=sz) (hb:ys.length*by_<=140737488355328) (h63:ys.length<=9223372036854775807):
 AWN P ⟨some d,.call ⟨.builtin .append,#[x,y],#[t,t]⟩,ty,ps,af,gd⟩ [(x,.v (.c .nil)),(y,.v (.c c))] nob (.v (.c (.w q ys.length))) [(q,.row e sz ys gy true)]:=by
 intro cx E a w ok hne hnob hfr
 obtain⟨hq1,hq2⟩:=hfr q _ (.head _)
 exact vA hs hne0 hsz hb h63 ok (λl x h=>hnob l x (A4 h)) hq1 hq2 (hne x _ (.head _)) (hne y _ (.tail _ (.head _)))
end
section
variable {P:Program} {N:Nat} {d:Tmp} {ty:TypeId} {ps:String} {af:Array Edge} {gd:Option (Nat×Bool)} {x y:Operand} {sl:List (Nat×T)} {ob:List (Nat×Ob)} {nx:Nat} {α:Type} {enc:α->List D}
theorem apx {t:TypeId} {e sz by_ o n nx':Nat} {ys zs:List α} {zd:List (List D)} {g gy gg:Bool} {c:C} {nob:List (Nat×Ob)} (ls:List Nat) [TySl P t e sz by_] (H:em by_ (ys++zs).length=true) (hzd:zs.map enc=zd:=by exact rfl) (henc:∀a,(enc a).length=sz:=by exact λ_=>rfl)
 (hp:yo ob ls=some nob:=by exact rfl) (hd:nlt d N=true:=by exact rfl) (hx:opT sl x= .v (.c (.w o n)):=by exact rfl) (hy:opT sl y= .v (.c c):=by exact rfl) (hn:ys.length=n:=by first|rfl|simp) (hs:Src nob c zd gy:=by first|exact .d|exact .nil|exact .w rfl (by first|rfl|exact lm _|simp)|exact .wn rfl (by first|rfl|exact lm _|simp)) (ho:go nob o=some (.row e sz (ys.map enc) g true):=by exact rfl) (hg:(g&&gy)=gg:=by exact rfl) (hrv:rsv o=false:=by exact rfl) (hnx:nxt nx=some nx':=by exact rfl):
 NX P N ⟨some d,.call ⟨.builtin .append,#[x,y],#[t,t]⟩,ty,ps,af,gd⟩ ⟨sl,ob,nx⟩ ⟨(d,.v (.c (.w nx (ys++zs).length)))::sl,(nx,.row e sz ((ys++zs).map enc) gg true)::ob,nx'⟩
  ⟨⟨d,[(x,.v (.c (.w o n))),(y,.v (.c c))],nob,.v (.c (.w nx (ys++zs).length)),[(nx,.row e sz ((ys++zs).map enc) gg true)]⟩,[],some o⟩:=by
 subst hzd;subst hg
 simp only[em,decide_eq_true_eq,Y8] at H
 have:=J7 (P:=P) (d:=d) (ty:=ty) (ps:=ps) (af:=af) (gd:=gd) (x:=x) (y:=y) (t:=t) (e:=e) (sz:=sz) (by_:=by_) (q:=nx) (n:=n) hrv ho hs (by simpa using hn) (Kc henc zs) (by subst hn;simp only[Y3];exact H.1) (by subst hn;simp only[Y3];omega)
 rw[<-ZU,Y3,<-hn,<-Y8] at this
 exact⟨by subst hn;exact this,.inl ⟨rfl,cX hd⟩,⟨hx,hy,trivial⟩,w7 hp,rH hnx,rfl⟩
theorem apxF {t:TypeId} {e sz by_ o n nx':Nat} {ys zs:List α} {zd:List (List D)} {g gy:Bool} {c:C} {nob:List (Nat×Ob)} (ls:List Nat) [TySl P t e sz by_] (H:em by_ (ys++zs).length=true) (hzd:zs.map enc=zd:=by exact rfl) (henc:∀a,(enc a).length=sz:=by exact λ_=>rfl) (hfl:∀a,wl (enc a)=true:=by exact λ_=>rfl)
 (hp:yo ob ls=some nob:=by exact rfl) (hd:nlt d N=true:=by exact rfl) (hx:opT sl x= .v (.c (.w o n)):=by exact rfl) (hy:opT sl y= .v (.c c):=by exact rfl) (hn:ys.length=n:=by first|rfl|simp) (hs:Src nob c zd gy:=by first|exact .d|exact .nil|exact .w rfl (by first|rfl|exact lm _|simp)|exact .wn rfl (by first|rfl|exact lm _|simp)) (ho:go nob o=some (.row e sz (ys.map enc) g true):=by exact rfl) (hrv:rsv o=false:=by exact rfl) (hnx:nxt nx=some nx':=by exact rfl):
 NX P N ⟨some d,.call ⟨.builtin .append,#[x,y],#[t,t]⟩,ty,ps,af,gd⟩ ⟨sl,ob,nx⟩ ⟨(d,.v (.c (.w nx (ys++zs).length)))::sl,(nx,.row e sz ((ys++zs).map enc) true true)::ob,nx'⟩
  ⟨⟨d,[(x,.v (.c (.w o n))),(y,.v (.c c))],nob,.v (.c (.w nx (ys++zs).length)),[(nx,.row e sz ((ys++zs).map enc) true true)]⟩,[],some o⟩:=by
 obtain⟨h1,h2,h3,h4,h5,h6⟩:=apx (P:=P) (N:=N) (t:=t) (x:=x) (y:=y) (enc:=enc) (d:=d) (ty:=ty) (ps:=ps) (af:=af) (gd:=gd) (sl:=sl) (ob:=ob) (nx:=nx) ls H hzd henc hp hd hx hy hn hs ho rfl hrv hnx
 refine⟨?_,h2,h3,h4,rH hnx,rfl⟩
 intro cx E a w ok hne hnob hfr
 refine Oper.wp_mono ?_ (h1 cx E a w ok hne hnob (λl x hm=>by simp at hm;obtain⟨rfl,_⟩:=hm;exact hfr _ _ (.head _)))
 rintro a' w' ⟨v,E',k1,k2,k3,k4,k5,k6,k7⟩
 refine⟨v,E',k1,k2,k3,k4,λl x hm=>?_,k6,λl x hl=>(k7 l x hl).imp id (λ⟨x',hm⟩=>by simp at hm;obtain⟨rfl,_⟩:=hm;exact⟨_,.head _⟩)⟩
 simp at hm;obtain⟨rfl,rfl⟩:=hm
 obtain⟨b,c,arr,j1,j2,j3,j4,j5,j6,j7,j8,j9⟩:=k5 _ _ (.head _)
 refine⟨b,c,arr,j1,j2,j3,by simpa using j4,j5,by simpa using j6,?_,j8,λh=>by cases h⟩
 have:rdLL w' (E'.H true) ((ys++zs).map enc) b 0:=A1 (λe he=>by obtain⟨a,_,rfl⟩:=ZQ.1 he;exact hfl a) j7
 simpa using this
end
theorem cS {N nx o:Nat} {sl:List (Nat×T)} {ob:List (Nat×Ob)} {ty:TypeId} {cs cs':List C} {e:List (Nat×Nat)} (ho:go ob o=some (.var ty cs):=by exact rfl) (hv:PA ob cs=some (cs',e):=by exact rfl) (he:Eqs e:=by repeat (first|exact trivial|refine⟨by first|rfl|exact lm _|simp,?_⟩)):dO N ⟨sl,ob,nx⟩ ⟨sl,(o,.var ty cs')::ob,nx⟩:=by
 intro cx E a w hR
 refine⟨E,hR.ok,hR.dom,λp x h=>?_,hR.sl,hR.dfr,hR.size,hR.td⟩
 by_cases hp:o=p
 .subst hp
  rw[cz] at h;cases h
  obtain⟨b,c,arr,h1,h2,h3,h4⟩:=hR.obs o _ ho
  exact⟨b,c,arr,h1,h2,HD hR.obs hv he h3,h4⟩
 rw[bH _ _ hp] at h;exact hR.obs p x h
theorem CX {N nx nx':Nat} {sl:List (Nat×T)} {ob:List (Nat×Ob)} (h:Zi nx nx'=true):dO N ⟨sl,ob,nx⟩ ⟨sl,ob,nx'⟩:=by
 intro cx E a w hR
 have:=Zx h
 exact⟨E,hR.ok,λo x ho=>Zg (hR.dom o x ho) this,hR.obs,hR.sl,hR.dfr,hR.size,λl b hb=>Zg (hR.td l b hb) this⟩
open Go.RowKit
theorem c8.setN {cx:Cx} {E:Env} {w:World} (ok:c8 cx E w) (n:Nat->Prop):c8 cx {E with n:=n} w:=
 ⟨ok.fb,ok.gf,ok.gn,ok.rb,ok.inj,ok.os,ok.tape,ok.output,ok.size,ok.block,ok.pin,ok.ff,ok.gc,⟨ok.sf.tb,ok.sf.tt,ok.sf.zc,ok.sf.zs,ok.sf.ze⟩⟩
def pC (f:C->Option C):List C->Option (List C)
 |[]=>some []
 |c::cs=>match f c,pC f cs with
  |some x,some xs=>some (x::xs)
  |_,_=>none
def H3 (f:C->Option C):V->Option V
 | .c c=>match f c with
  |some x=>some (.c x)
  |none=>none
 | .agg cs=>match pC f cs with
  |some x=>some (.agg x)
  |none=>none
def BN (f:C->Option C):List V->Option (List V)
 |[]=>some []
 |c::cs=>match H3 f c,BN f cs with
  |some x,some xs=>some (x::xs)
  |_,_=>none
def zX (f:C->Option C):T->Option T
 | .v v=>match H3 f v with
  |some x=>some (.v x)
  |none=>none
 | .tup vs=>match BN f vs with
  |some x=>some (.tup x)
  |none=>none
 | .any=>some .any
def Bh (f:C->Option C):List (Nat×T)->Option (List (Nat×T))
 |[]=>some []
 |(k,t)::r=>match zX f t,Bh f r with
  |some x,some xs=>some ((k,x)::xs)
  |_,_=>none
def yQ (f:C->Option C) (g:Nat->Ob->Option Ob):List (Nat×Ob)->Option (List (Nat×Ob))
 |[]=>some []
 |(k,.var t cs)::r=>match pC f cs,yQ f g r with
  |some x,some xs=>some ((k,.var t x)::xs)
  |_,_=>none
 |(k,.row t sz els gg m)::r=>match g k (.row t sz els gg m),yQ f g r with
  |some x,some xs=>some ((k,x)::xs)
  |_,_=>none
 |(k,.rown t sz els gg)::r=>match g k (.rown t sz els gg),yQ f g r with
  |some x,some xs=>some ((k,x)::xs)
  |_,_=>none
 |(k,.abs j y)::r=>match g k (.abs j y),yQ f g r with
  |some x,some xs=>some ((k,x)::xs)
  |_,_=>none
section
variable {f:C->Option C} {E E':Env} {w w':World} (hf:∀c c' u,f c=some c'->cvC E w c u->cvC E' w' c' u)
include hf
theorem ue:∀{cs cs':List C} {us:List Value},pC f cs=some cs'->CV E w cs us->CV E' w' cs' us
 |[],cs',us,h,hc=>by
  simp[pC] at h;subst h
  cases us with
  |nil=>trivial
  |cons _ _=>exact hc.elim
 |c::cs,cs',us,h,hc=>by
  cases us with
  |nil=>exact hc.elim
  |cons u us=>
   simp only[pC] at h
   split at h
   .rename_i h1 h2;simp at h;subst h;exact⟨hf _ _ _ h1 hc.1,ue h2 hc.2⟩
   cases h
theorem Oh {v v':V} {u:Value} (h:H3 f v=some v') (hv:cvV E w v u):cvV E' w' v' u:=by
 cases v with
 |c c=>
  simp only[H3] at h
  split at h
  .rename_i h1;simp at h;subst h;exact hf _ _ _ h1 hv
  cases h
 |agg cs=>
  simp only[H3] at h
  split at h
  .rename_i h1;simp at h;subst h;obtain⟨arr,hu,hc⟩:=hv;exact⟨arr,hu,ue hf h1 hc⟩
  cases h
theorem Kj:∀{cs cs':List V} {us:List Value},BN f cs=some cs'->VV E w cs us->VV E' w' cs' us
 |[],cs',us,h,hc=>by
  simp[BN] at h;subst h
  cases us with
  |nil=>trivial
  |cons _ _=>exact hc.elim
 |c::cs,cs',us,h,hc=>by
  cases us with
  |nil=>exact hc.elim
  |cons u us=>
   simp only[BN] at h
   split at h
   .rename_i h1 h2;simp at h;subst h;exact⟨Oh hf h1 hc.1,Kj h2 hc.2⟩
   cases h
theorem zY {v v':T} {u:Value} (h:zX f v=some v') (hv:cvT E w v u):cvT E' w' v' u:=by
 cases v with
 |v v=>
  simp only[zX] at h
  split at h
  .rename_i h1;simp at h;subst h;exact Oh hf h1 hv
  cases h
 |tup vs=>
  simp only[zX] at h
  split at h
  .rename_i h1;simp at h;subst h;obtain⟨arr,hu,hc⟩:=hv;exact⟨arr,hu,Kj hf h1 hc⟩
  cases h
 |any=>simp[zX] at h;subst h;trivial
theorem zW {k:Nat} {u:Value}:∀{sl sl':List (Nat×T)},Bh f sl=some sl'->cvT E w (gt sl k) u->cvT E' w' (gt sl' k) u
 |[],sl',h,_=>by simp[Bh] at h;subst h;trivial
 |(j,t)::r,sl',h,hc=>by
  simp only[Bh] at h
  split at h
  .rename_i h1 h2
   simp at h;subst h
   by_cases hj:j=k
   .subst hj;rw[d9] at hc ⊢;exact zY hf h1 hc
   rw[da _ _ hj] at hc ⊢;exact zW h2 hc
  cases h
end
theorem va {f:C->Option C} {g:Nat->Ob->Option Ob} {l:Nat} {y:Ob}:∀{ob ob':List (Nat×Ob)},yQ f g ob=some ob'->go ob' l=some y->
 (∃t cs cs',go ob l=some (.var t cs)/\pC f cs=some cs'/\y= .var t cs')\/(∃x,go ob l=some x/\(∀t cs,x≠.var t cs)/\g l x=some y)
 |[],ob',h,hy=>by simp[yQ] at h;subst h;cases hy
 |(k,x)::r,ob',h,hy=>by
  cases x with
  |var t cs=>
   simp only[yQ] at h
   split at h
   .rename_i h1 h2
    simp at h;subst h
    by_cases hk:k=l
    .subst hk;rw[cz] at hy ⊢;cases hy;exact .inl ⟨t,cs,_,rfl,h1,rfl⟩
    rw[bH _ _ hk] at hy ⊢;exact va h2 hy
   cases h
  |row t sz els gg m=>
   simp only[yQ] at h
   split at h
   .rename_i h1 h2
    simp at h;subst h
    by_cases hk:k=l
    .subst hk;rw[cz] at hy ⊢;cases hy;exact .inr ⟨_,rfl,by simp,h1⟩
    rw[bH _ _ hk] at hy ⊢;exact va h2 hy
   cases h
  |rown t sz els gg=>
   simp only[yQ] at h
   split at h
   .rename_i h1 h2
    simp at h;subst h
    by_cases hk:k=l
    .subst hk;rw[cz] at hy ⊢;cases hy;exact .inr ⟨_,rfl,by simp,h1⟩
    rw[bH _ _ hk] at hy ⊢;exact va h2 hy
   cases h
  |abs j z=>
   simp only[yQ] at h
   split at h
   .rename_i h1 h2
    simp at h;subst h
    by_cases hk:k=l
    .subst hk;rw[cz] at hy ⊢;cases hy;exact .inr ⟨_,rfl,by simp,h1⟩
    rw[bH _ _ hk] at hy ⊢;exact va h2 hy
   cases h
def QJ (o:Nat):C->Option C
 | .w l n=>match YN l o with
  |true=>some (.wn l n)
  |false=>some (.w l n)
 | .wn l n=>match YN l o with
  |true=>some .any
  |false=>some (.wn l n)
 |c=>some c
def Us (o:Nat) (k:Nat):Ob->Option Ob
 | .row t sz els g true=>match YN k o with
  |true=>some (.rown t sz els g)
  |false=>some (.row t sz els g true)
 |x=>some x
theorem lk {N nx rt sz:Nat} {els:List (List D)} {g:Bool} {sl sl':List (Nat×T)} {ob ob':List (Nat×Ob)} (o:Nat) (ho:go ob o=some (.row rt sz els g true):=by exact rfl) (hs:Bh (QJ o) sl=some sl':=by exact rfl) (hb:yQ (QJ o) (Us o) ob=some ob':=by exact rfl):dO N ⟨sl,ob,nx⟩ ⟨sl',ob',nx⟩:=by
 intro cx E a w hR
 have hf:∀c c' u,QJ o c=some c'->cvC E w c u->cvC {E with n:=λl=>l≠o/\E.n l} w c' u:=by
  intro c c' u h hc
  cases c with
  |w l n=>
   simp only[QJ] at h
   split at h
   .rename_i hb
    have:=YT hb
    subst this
    cases h
    exact .inr ⟨λh=>h.1 rfl,hc⟩
   cases h;exact hc
  |wn l n=>
   simp only[QJ] at h
   split at h
   .cases h;trivial
   rename_i hb
   have:=iY hb
   cases h
   rcases hc with⟨h1,h2⟩|⟨h1,h2⟩
   .exact .inl ⟨⟨this,h1⟩,h2⟩
   exact .inr ⟨λh=>h1 h.2,h2⟩
  |_=>simp only[QJ] at h;cases h;exact hc
 refine⟨{E with n:=λl=>l≠o/\E.n l},hR.ok.setN _,hR.dom,λl y hl=>?_,λk=>zW hf hs (hR.sl k),hR.dfr,hR.size,hR.td⟩
 rcases va hb hl with⟨t,cs,cs',h1,h2,rfl⟩|⟨x,h1,h2,h3⟩
 .obtain⟨b,c,arr,k1,k2,k3,k4⟩:=hR.obs l _ h1
  exact⟨b,c,arr,k1,k2,ue hf h2 k3,k4⟩
 have hx:=hR.obs l x h1
 cases x with
 |var t cs=>exact absurd rfl (h2 t cs)
 |row t sz els g m=>
  cases m with
  |true=>
   simp only[Us] at h3
   split at h3
   .rename_i hb
    have:=YT hb
    subst this
    cases h3
    obtain⟨b,c,arr,k1,k2,k3,k4,k5,k6,k7,k8,_⟩:=hx
    exact .inr ⟨λh=>h.1 rfl,b,c,arr,k1,k2,k3,k4,k5,k6,k7,k8 rfl⟩
   cases h3;exact hx
  |false=>simp only[Us] at h3;cases h3;exact hx
 |rown t sz els g=>
  simp only[Us] at h3
  cases h3
  have hlo:l≠o:=λe=>by subst e;rw[ho] at h1;cases h1
  rcases hx with⟨k1,k2⟩|⟨k1,k2⟩
  .exact .inl ⟨⟨hlo,k1⟩,k2⟩
  exact .inr ⟨λh=>k1 h.2,k2⟩
 |abs j y=>
  simp only[Us] at h3
  cases h3
  have hlo:l≠o:=λe=>by subst e;rw[ho] at h1;cases h1
  rcases hx with⟨k1,k2⟩|⟨k1,k2⟩
  .exact .inl ⟨⟨hlo,k1⟩,k2⟩
  exact .inr ⟨λh=>k1 h.2,k2⟩
def Uw (o:Nat):C->Option C
 | .wn l n=>match YN l o with
  |true=>some (.w l n)
  |false=>some (.wn l n)
 |c=>some c
def Wr (o:Nat) (k:Nat):Ob->Option Ob
 | .rown t sz els g=>match YN k o with
  |true=>some (.row t sz els g true)
  |false=>some (.rown t sz els g)
 |x=>some x
theorem Lu {N nx ty sz:Nat} {els:List (List D)} {g:Bool} {sl sl':List (Nat×T)} {ob ob':List (Nat×Ob)} (o:Nat) (ho:go ob o=some (.rown ty sz els g):=by exact rfl) (hne:els≠[]) (hs:Bh (Uw o) sl=some sl':=by exact rfl) (hb:yQ (Uw o) (Wr o) ob=some ob':=by exact rfl):dO N ⟨sl,ob,nx⟩ ⟨sl',ob',nx⟩:=by
 intro cx E a w hR
 have hn:¬E.n o:=by
  rcases hR.obs o _ ho with⟨_,h⟩|⟨h,_⟩
  .exact absurd h hne
  exact h
 have hf:∀c c' u,Uw o c=some c'->cvC E w c u->cvC E w c' u:=by
  intro c c' u h hc
  cases c with
  |wn l n=>
   simp only[Uw] at h
   split at h
   .rename_i hb
    have:=YT hb
    subst this
    cases h
    rcases hc with⟨h1,_⟩|⟨_,h2⟩
    .exact absurd h1 hn
    exact h2
   cases h;exact hc
  |_=>simp only[Uw] at h;cases h;exact hc
 refine⟨E,hR.ok,hR.dom,λl y hl=>?_,λk=>zW hf hs (hR.sl k),hR.dfr,hR.size,hR.td⟩
 rcases va hb hl with⟨t,cs,cs',h1,h2,rfl⟩|⟨x,h1,h2,h3⟩
 .obtain⟨b,c,arr,k1,k2,k3,k4⟩:=hR.obs l _ h1
  exact⟨b,c,arr,k1,k2,ue hf h2 k3,k4⟩
 have hx:=hR.obs l x h1
 cases x with
 |var t cs=>exact absurd rfl (h2 t cs)
 |row t sz els g m=>simp only[Wr] at h3;cases h3;exact hx
 |rown t sz els g=>
  simp only[Wr] at h3
  split at h3
  .rename_i hb
   have:=YT hb
   subst this
   cases h3
   rcases hx with⟨k1,k2⟩|⟨_,b,c,arr,k1,k2,k3,k4,k5,k6,k7,k8⟩
   .exact absurd k1 hn
   exact⟨b,c,arr,k1,k2,k3,k4,k5,k6,k7,λ_=>k8,λh=>by cases h⟩
  cases h3;exact hx
 |abs j y=>simp only[Wr] at h3;cases h3;exact hx
def FE (n:Nat):List (Nat×T)->Bool
 |[]=>true
 |(_,t)::r=>t.lt n&&FE n r
def BR (n:Nat):List (Nat×Ob)->Bool
 |[]=>true
 |(l,x)::r=>(nlt l n&&x.lt n)&&BR n r
theorem O0 {n:Nat}:∀{sl:List (Nat×T)} (k:Nat),FE n sl=true->(gt sl k).lt n=true
 |[],k,_=>rfl
 |(j,t)::r,k,h=>by
  simp only[FE,v0] at h
  by_cases hj:j=k
  .subst hj;rw[d9];exact h.1
  rw[da _ _ hj];exact O0 k h.2
theorem w6 {n:Nat}:∀{ob:List (Nat×Ob)} {l:Nat} {x:Ob},BR n ob=true->go ob l=some x->l<n/\x.lt n=true
 |(k,y)::r,l,x,h,hl=>by
  simp only[BR,v0] at h
  by_cases hk:k=l
  .subst hk;rw[cz] at hl;cases hl;exact⟨cX h.1.1,h.1.2⟩
  rw[bH _ _ hk] at hl;exact w6 h.2 hl
section
variable {E:Env} {w:World} {n:Nat} {p:Nat->Prop} (hp:∀l,l<n->(p l↔E.n l))
include hp
theorem Jx {c:C} {u:Value} (hl:c.lt n=true) (h:cvC E w c u):cvC {E with n:=p} w c u:=by
 cases c with
 |wn o m=>
  have:=hp o (cX hl)
  rcases h with⟨h1,h2⟩|⟨h1,h2⟩
  .exact .inl ⟨this.2 h1,h2⟩
  exact .inr ⟨λk=>h1 (this.1 k),h2⟩
 |_=>exact h
theorem Hb:∀{cs:List C} {us:List Value},cs.all (C.lt n)=true->CV E w cs us->CV {E with n:=p} w cs us
 |[],[],_,_=>trivial
 |c::cs,u::us,hl,h=>by
  simp only[Zt,v0] at hl
  exact⟨Jx hp hl.1 h.1,Hb hl.2 h.2⟩
 |[],_::_,_,h=>h.elim
 |_::_,[],_,h=>h.elim
theorem Jy {v:V} {u:Value} (hl:v.lt n=true) (h:cvV E w v u):cvV {E with n:=p} w v u:=by
 cases v with
 |c c=>exact Jx hp hl h
 |agg cs=>obtain⟨arr,hu,h⟩:=h;exact⟨arr,hu,Hb hp hl h⟩
theorem Nn:∀{cs:List V} {us:List Value},cs.all (V.lt n)=true->VV E w cs us->VV {E with n:=p} w cs us
 |[],[],_,_=>trivial
 |c::cs,u::us,hl,h=>by
  simp only[Zt,v0] at hl
  exact⟨Jy hp hl.1 h.1,Nn hl.2 h.2⟩
 |[],_::_,_,h=>h.elim
 |_::_,[],_,h=>h.elim
theorem Rs {t:T} {u:Value} (hl:t.lt n=true) (h:cvT E w t u):cvT {E with n:=p} w t u:=by
 cases t with
 |v v=>exact Jy hp hl h
 |tup ts=>obtain⟨arr,hu,h⟩:=h;exact⟨arr,hu,Nn hp hl h⟩
 |any=>trivial
theorem MB {o:Nat} {x:Ob} (ho:o<n) (hl:x.lt n=true) (h:cP E w o x):cP {E with n:=p} w o x:=by
 cases x with
 |var t cs=>obtain⟨b,c,arr,k1,k2,k3,k4⟩:=h;exact⟨b,c,arr,k1,k2,Hb hp hl k3,k4⟩
 |row t sz els g m=>exact h
 |rown t sz els g=>
  rcases h with⟨h1,h2⟩|⟨h1,h2⟩
  .exact .inl ⟨(hp o ho).2 h1,h2⟩
  exact .inr ⟨λk=>h1 ((hp o ho).1 k),h2⟩
 |abs j y=>
  rcases h with⟨h1,h2⟩|⟨h1,h2⟩
  .exact .inl ⟨(hp o ho).2 h1,h2⟩
  exact .inr ⟨λk=>h1 ((hp o ho).1 k),h2⟩
end
theorem Yf {N nx nx' ty sz:Nat} {g:Bool} {sl:List (Nat×T)} {ob:List (Nat×Ob)} (hs:FE nx sl=true) (hb:BR nx ob=true) (hq:nxt nx=some nx') {cx:Cx} {E:Env} {a:Act} {w:World} (hR:Rel N cx E ⟨sl,ob,nx⟩ a w):
 Rel N cx {E with n:=λl=>l=nx\/E.n l} ⟨sl,(nx,.rown ty sz [] g)::ob,nx'⟩ a w:=by
 have hp:∀l,l<nx->((l=nx\/E.n l)↔E.n l):=λl h=>⟨λk=>k.resolve_left oaa,.inr⟩
 have hn:nx'=nx+1:=by
  unfold nxt at hq
  cases hr:rsv nx with
  |true=>rw[hr] at hq;cases hq
  |false=>rw[hr] at hq;exact(Option.some.inj hq).symm
 refine⟨hR.ok.setN _,λo x h=>by have:=hR.dom o x h;simp only at this ⊢;omega,λl x hl=>?_,λk=>Rs hp (O0 k hs) (hR.sl k),hR.dfr,hR.size,λl b h=>by have:=hR.td l b h;simp only at this ⊢;omega⟩
 by_cases e:nx=l
 .subst e;rw[cz] at hl;cases hl;exact .inl ⟨.inl rfl,rfl⟩
 rw[bH _ _ e] at hl
 obtain⟨h1,h2⟩:=w6 hb hl
 exact MB hp h1 h2 (hR.obs l x hl)
def QD:Nat->C->List C->Option (List C)
 |0,x,.nil::cs=>some (x::cs)
 |j+1,x,c::cs=>match QD j x cs with
  |some r=>some (c::r)
  |none=>none
 |_,_,_=>none
theorem Iv {E E':Env} {w:World} {x:C} (hx:cvC E' w x (.slice none 0 0)):∀{j:Nat} {cs cs':List C} {us:List Value},QD j x cs=some cs'->CV E w cs us->CV E' w cs us->CV E' w cs' us
 |0,.nil::cs,cs',us,h,h1,h2=>by
  simp[QD] at h;subst h
  cases us with
  |nil=>exact h1.elim
  |cons u us=>have:u= .slice none 0 0:=h1.1;subst this;exact⟨hx,h2.2⟩
 |j+1,c::cs,cs',us,h,h1,h2=>by
  simp only[QD] at h
  split at h
  .rename_i h3
   simp at h;subst h
   cases us with
   |nil=>exact h1.elim
   |cons u us=>exact⟨h2.1,Iv hx h3 h1.2 h2.2⟩
  cases h
theorem gU {N nx nx' o j:Nat} {sl:List (Nat×T)} {ob:List (Nat×Ob)} {vt:TypeId} {cs cs':List C} (ty sz:Nat) (g:Bool) (ho:go ob o=some (.var vt cs):=by exact rfl) (hj:QD j (.wn nx 0) cs=some cs':=by exact rfl) (hs:FE nx sl=true:=by exact rfl) (hb:BR nx ob=true:=by exact rfl) (hq:nxt nx=some nx':=by exact rfl):
 dO N ⟨sl,ob,nx⟩ ⟨sl,(o,.var vt cs')::(nx,.rown ty sz [] g)::ob,nx'⟩:=by
 intro cx E a w hR
 have h:=Yf (ty:=ty) (sz:=sz) (g:=g) hs hb hq hR
 refine⟨_,h.ok,h.dom,λl x hl=>?_,h.sl,h.dfr,h.size,h.td⟩
 by_cases e:o=l
 .subst e
  rw[cz] at hl;cases hl
  have hne:nx≠o:=λe=>by have:=(w6 hb ho).1;omega
  have h2:=h.obs o (.var vt cs) (by rw[bH _ _ hne];exact ho)
  obtain⟨b,c,arr,k1,k2,k3,k4⟩:=hR.obs o _ ho
  obtain⟨b',c',arr',m1,m2,m3,m4⟩:=h2
  have k1':E.r o=some (b',c'):=m1
  rw[k1] at k1';cases k1'
  rw[k2] at m2;cases m2
  exact⟨b,c,arr,k1,k2,Iv (x:=.wn nx 0) (Or.inl ⟨Or.inl rfl,rfl,rfl⟩) hj k3 m3,k4⟩
 rw[bH _ _ e] at hl;exact h.obs l x hl
section
variable {P:Program} {N:Nat} {d:Tmp} {ty:TypeId} {ps:String} {af:Array Edge} {gd:Option (Nat×Bool)} {x y z:Operand} {sl:List (Nat×T)} {ob:List (Nat×Ob)} {nx:Nat}
theorem Tb {d:Option Tmp} {t:TypeId} {o n e sz by_:Nat} [ht:TySl P t e sz by_]:AWN P ⟨d,.call ⟨.builtin .len,#[x],#[t]⟩,ty,ps,af,gd⟩ [(x,.v (.c (.wn o n)))] [] (tI n) []:=
 ci λE ac w hn _=>by
  rcases hn x _ (.head _) with⟨_,h0,hu⟩|⟨_,b,c,hr,hu⟩
  .subst h0;exact⟨_,by simp[execOp,resolve,invoke,builtin,hu,Builtin.len_,underlying,ht.u,goInt];rfl,by simp[cvT,cvV,cvC,rdD]⟩
  exact⟨_,by simp[execOp,resolve,invoke,builtin,hu,Builtin.len_,underlying,ht.u,goInt];rfl,by simp[cvT,cvV,cvC,rdD]⟩
theorem lwn {t:TypeId} {o n e sz by_:Nat} [TySl P t e sz by_] (hx:opT sl x= .v (.c (.wn o n))) (hN:nlt d N=true):NS0 P N ⟨some d,.call ⟨.builtin .len,#[x],#[t]⟩,ty,ps,af,gd⟩ sl ob nx d (tI n) ⟨d,[(x,.v (.c (.wn o n)))],[],tI n,[]⟩:=dx (st:=⟨sl,ob,nx⟩) Tb rfl hN ⟨hx,trivial⟩ trivial rfl
theorem Kq {st:St} {t:TypeId} {e sz by_ o n:Nat} {els ys:List (List D)} {g gy:Bool} {c:C} {sl':List (Nat×T)} {ob':List (Nat×Ob)} [ht:TySl P t e sz by_] (hrv:rsp o=false) (hnv:rsv st.nx=false) (hd:d<N)
 (hx:opT st.sl x= .v (.c (.wn o n))) (hy:opT st.sl y= .v (.c c)) (ho:go st.ob o=some (.rown e sz els g)) (hs:Src st.ob c ys gy) (hk:pB o st.sl=some sl') (hkb:mM o st.ob=some ob')
 (hn:els.length=n) (hne:ys≠[]) (hol:o<st.nx) (hsz:∀e∈ys,e.length=sz) (hb:(n+ys.length)*by_<=140737488355328) (h63:n+ys.length<=9223372036854775807):
 AWO P N ⟨some d,.call ⟨.builtin .append,#[x,y],#[t,t]⟩,ty,ps,af,gd⟩ st ⟨(d,.v (.c (.w o (n+ys.length))))::sl',(o,.row e sz (els++ys) (g&&gy) true)::ob',st.nx⟩:=by
 intro cx E a w hR
 have h1:=hR.op x;rw[hx] at h1
 have h2:=hR.op y;rw[hy] at h2
 have h3:=hR.obs o _ ho
 rcases h1 with⟨hE,h0,hu⟩|⟨hE,b,cc,hr,hu⟩
 .subst h0
  have hels:els=[]:=Zl hn
  subst hels
  have hq1:E.r st.nx=none:=by
   cases hq:E.r st.nx with
   |none=>rfl
   |some p=>have:=hR.dom _ _ hq;omega
  have hoq:o≠st.nx:=by omega
  refine Oper.wp_mono ?_ (vA (P:=P) (d:=d) (ty:=ty) (ps:=ps) (af:=af) (gd:=gd) (t:=t) (q:=st.nx) hs hne hsz (by simpa using hb) oaa hR.ok hR.obs hq1 hnv hu h2)
  rintro a' w' ⟨v,E1,rfl,ok1,ext,hv,hob1,hdom⟩
  obtain⟨bn,cap,hrq,hvu⟩:=hv
  obtain⟨bn',cap',arr,hrq',hhn,j3,j4,j5,j6,j7,j8,_⟩:=hob1 _ _ (.head _)
  rw[hrq] at hrq';cases hrq'
  have hrE:∀l p,E1.r l=some p->l=st.nx\/E.r l=some p:=λl p h=>by
   rcases hdom l p h with h|⟨ob,h⟩
   .exact .inr h
   simp at h;exact .inl h.1
  let E2:Env:={E1 with r:=λl=>if l=o then some (bn,cap) else if l=st.nx then none else E1.r l,n:=λl=>l≠o/\E.n l}
  have hr2:∀l b c,E2.r l=some (b,c)->(l=o/\b=bn/\c=cap)\/(l≠o/\l≠st.nx/\E1.r l=some (b,c)):=by
   intro l b c h
   have h:(if l=o then some (bn,cap) else if l=st.nx then none else E1.r l)=some (b,c):=h
   split at h
   .cases h;exact .inl ⟨by assumption,rfl,rfl⟩
   split at h
   .cases h
   exact .inr ⟨by assumption,by assumption,h⟩
  have hback:∀l b c,E2.r l=some (b,c)->∃l',E1.r l'=some (b,c):=by
   intro l b c h
   rcases hr2 l b c h with⟨_,rfl,rfl⟩|⟨_,_,h⟩
   .exact⟨st.nx,hrq⟩
   exact⟨l,h⟩
  have ok2:c8 cx E2 w':=by
   refine⟨ok1.fb,ok1.gf,ok1.gn,λl b c h=>?_,λl l' b c c' h h'=>?_,ok1.os,ok1.tape,ok1.output,ok1.size,ok1.block,λl p hv h=>?_,ok1.ff,ok1.gc,⟨λl b h=>?_,ok1.sf.tt,λb h=>?_,ok1.sf.zs,ok1.sf.ze⟩⟩
   .rcases hr2 l b c h with⟨_,rfl,rfl⟩|⟨_,_,h⟩
    .obtain⟨k1,k2⟩:=ok1.rb _ _ _ hrq
     exact⟨k1,.inl (k2.resolve_right (λk=>by rw[hnv] at k;cases k.2))⟩
    exact ok1.rb l b c h
   .rcases hr2 l b c h with⟨rfl,rfl,rfl⟩|⟨k1,k2,k3⟩<;>rcases hr2 l' _ c' h' with⟨rfl,e1,e2⟩|⟨m1,m2,m3⟩
    .rfl
    .exact absurd (ok1.inj _ _ _ _ _ m3 hrq) m2
    .subst e1;exact absurd (ok1.inj _ _ _ _ _ k3 hrq) k2
    exact ok1.inj _ _ _ _ _ k3 m3
   .obtain⟨b,c⟩:=p
    rcases hr2 l b c h with⟨rfl,_⟩|⟨_,_,h⟩
    .rw[hrv] at hv;cases hv
    exact ok1.pin l _ hv h
   .obtain⟨k1,k2,k3,k4⟩:=ok1.sf.tb l b h
    exact⟨k1,k2,λl' c hl=>(hback l' b c hl).elim λl'' h''=>k3 l'' c h'',k4⟩
   obtain⟨k1,k2,k3,k4⟩:=ok1.sf.zc b h
   exact⟨k1,k2,λl' c hl=>(hback l' b c hl).elim λl'' h''=>k3 l'' c h'',k4⟩
  have kp:=kt.of_ext hR.ok ext
  have kb:mU o E w E2 w':=⟨λl p hl h=>by
   show(if l=o then some (bn,cap) else if l=st.nx then none else E1.r l)=some p
   rw[if_neg hl,if_neg (λe=>by subst e;rw[hq1] at h;cases h)]
   exact kp.r _ _ h,kp.H,kp.heap,kp.T,kp.Z,λl hl=>⟨λh=>h.2,λh=>⟨hl,h⟩⟩⟩
  have hFb:∀b,b<w.heap.size->¬E.F b->¬E2.F b:=λb hb hn h=>(ext.F' b h).elim hn oaa
  refine⟨E2,ok2,λl p h=>?_,λl ob hl=>?_,λk=>?_,hR.dfr,by simpa [Act.put] using hR.size,λl b h=>hR.td l b (by rw[<-ext.T];exact h)⟩
  .obtain⟨b,c⟩:=p
   rcases hr2 l b c h with⟨rfl,_⟩|⟨_,k2,h⟩
   .exact hol
   rcases hrE _ _ h with h|h
   .exact absurd h k2
   exact hR.dom _ _ h
  .by_cases hlo:o=l
   .subst hlo
    rw[cz] at hl;cases hl
    refine⟨bn,cap,arr,by show(if o=o then _ else _)=_;rw[if_pos rfl],hhn,j3,by simpa using j4,j5,by simpa using j6,?_,λ_=>j8 rfl,λh=>by cases h⟩
    simp only[ZR]
    exact ct (λ_ _=>rfl) (λb hb=>by cases g<;>cases gy<;>first|exact hb|exact ok1.gf b hb) rfl _ _ j7
   rw[bH _ _ hlo] at hl
   rcases ud hkb hl with⟨t',cs,cs',k1,k2,rfl⟩|⟨t',sz',els',g',m',k1,rfl⟩|⟨t',sz',els',g',k1,rfl⟩|⟨j',y',k1,rfl⟩
   .obtain⟨bl,cl,arrl,l1,l2,l3,l4⟩:=hR.obs l _ k1
    have hbl:=(hR.ok.rb _ _ _ l1).1
    exact⟨bl,cl,arrl,kb.r _ _ (Ne.symm hlo) l1,(ext.heap bl hbl).trans l2,xv kb k2 l3,hFb bl hbl l4⟩
   .obtain⟨bl,cl,arrl,l1,l2,l3,l4,l5,l6,l7,l8,l9⟩:=hR.obs l _ k1
    have hbl:=(hR.ok.rb _ _ _ l1).1
    have hb2:=ext.heap bl hbl
    exact⟨bl,cl,arrl,kb.r _ _ (Ne.symm hlo) l1,hb2.trans l2,l3,l4,l5,l6,ct (kb.heap _) (kb.H _) hb2 _ _ l7,λhm=>hFb bl hbl (l8 hm),λhm=>⟨kb.H false _ (l9 hm).1,λhg=>kb.H true _ ((l9 hm).2 hg)⟩⟩
   .rcases hR.obs l _ k1 with⟨m1,m2⟩|⟨l0,bl,cl,arrl,l1,l2,l3,l4,l5,l6,l7,l8⟩
    .exact .inl ⟨⟨Ne.symm hlo,m1⟩,m2⟩
    have hbl:=(hR.ok.rb _ _ _ l1).1
    have hb2:=ext.heap bl hbl
    exact .inr ⟨λh=>l0 h.2,bl,cl,arrl,kb.r _ _ (Ne.symm hlo) l1,hb2.trans l2,l3,l4,l5,l6,ct (kb.heap _) (kb.H _) hb2 _ _ l7,hFb bl hbl l8⟩
   rcases hR.obs l _ k1 with⟨m1,m2⟩|⟨l0,bl,cl,l1,l2,l3⟩
   .exact .inl ⟨⟨Ne.symm hlo,m1⟩,m2⟩
   have hbl:=(hR.ok.rb _ _ _ l1).1
   have hb2:=ext.heap bl hbl
   exact .inr ⟨λh=>l0 h.2,bl,cl,kb.r _ _ (Ne.symm hlo) l1,y'.st _ _ _ _ _ _ l2 (λk hk=>(kb.T _ k hk).1) hb2 (λk hk=>(kb.T _ k hk).2),hFb bl hbl l3⟩
  rw[ij (by rw[hR.size];exact hd)]
  by_cases hdk:d=k
  .subst hdk;rw[d9,if_pos rfl];exact⟨bn,cap,by show(if o=o then _ else _)=_;rw[if_pos rfl],by simpa using hvu⟩
  rw[da _ _ hdk,if_neg hdk]
  rcases wU hk k with h|⟨h,h'⟩
  .rw[h];trivial
  rw[h];exact Hz kb h' (hR.sl k)
 rcases h3 with⟨hE',_⟩|⟨_,b',c',arr,hr',hh,ha,hlc,hmx,hes,hrd,hF⟩
 .exact absurd hE' hE
 rw[hr] at hr';cases hr'
 exact BC hR hrv hd hr hu hh ha hlc hmx hes hrd hF hy hs hk hkb hn hsz hb h63
variable {α:Type} {enc:α->List D}
theorem Hn {t:TypeId} {e sz by_ o n:Nat} {ys zs:List α} {zd:List (List D)} {g gy gg:Bool} {c:C} {sl':List (Nat×T)} {ob':List (Nat×Ob)} [TySl P t e sz by_] (H:em by_ (ys++zs).length=true) (hne:zs≠[]) (hzd:zs.map enc=zd) (henc:∀a,(enc a).length=sz) (hn:ys.length=n) (hs:Src ob c zd gy) (hd:nlt d N=true)
 (hx:opT sl x= .v (.c (.wn o n))) (hy:opT sl y= .v (.c c)) (ho:go ob o=some (.rown e sz (ys.map enc) g)) (hk:pB o sl=some sl') (hkb:mM o ob=some ob') (hg:(g&&gy)=gg) (hrv:rsp o=false) (hnv:rsv nx=false) (hol:nlt o nx=true):
 AWO P N ⟨some d,.call ⟨.builtin .append,#[x,y],#[t,t]⟩,ty,ps,af,gd⟩ ⟨sl,ob,nx⟩ ⟨(d,.v (.c (.w o (ys++zs).length)))::sl',(o,.row e sz ((ys++zs).map enc) gg true)::ob',nx⟩:=by
 subst hzd;subst hg
 simp only[em,decide_eq_true_eq,Y8] at H
 have:=Kq (st:=⟨sl,ob,nx⟩) (P:=P) (N:=N) (d:=d) (ty:=ty) (ps:=ps) (af:=af) (gd:=gd) (t:=t) (e:=e) (sz:=sz) (by_:=by_) hrv hnv (cX hd) hx hy ho hs hk hkb (by simpa using hn) (by simpa using hne) (cX hol) (Kc henc zs) (by subst hn;simp only[Y3];exact H.1) (by subst hn;simp only[Y3];omega)
 rw[<-ZU,Y3,<-hn,<-Y8] at this
 exact this
end
open Go.RowKit
def Er (p q:Nat):C->Option C
 | .w l n=>match YN l p,YN l q with
  |true,_=>some .any
  |false,true=>some (.w p n)
  |false,false=>some (.w l n)
 | .wn l n=>match YN l p,YN l q with
  |true,_=>some .any
  |false,true=>some (.wn p n)
  |false,false=>some (.wn l n)
 | .s l a b c=>match YN l p,YN l q with
  |true,_=>some .any
  |false,true=>some (.s p a b c)
  |false,false=>some (.s l a b c)
 | .p l k=>match YN l p,YN l q with
  |true,_=>some .any
  |false,true=>some (.p p k)
  |false,false=>some (.p l k)
 | .e l a b c=>match YN l p,YN l q with
  |true,_=>some .any
  |false,true=>some (.e p a b c)
  |false,false=>some (.e l a b c)
 |c=>some c
def Ct (p q:Nat):List (Nat×Ob)->Option (List (Nat×Ob))
 |[]=>some []
 |(k,.var t cs)::r=>match YN k p,YN k q,pC (Er p q) cs,Ct p q r with
  |true,_,_,some r'=>some r'
  |false,true,some cs',some r'=>some ((p,.var t cs')::r')
  |false,false,some cs',some r'=>some ((k,.var t cs')::r')
  |_,_,_,_=>none
 |(k,.row t sz els g m)::r=>match YN k p,YN k q,Ct p q r with
  |true,_,some r'=>some r'
  |false,true,some r'=>some ((p,.row t sz els g m)::r')
  |false,false,some r'=>some ((k,.row t sz els g m)::r')
  |_,_,_=>none
 |(k,.rown t sz els g)::r=>match YN k p,YN k q,Ct p q r with
  |true,_,some r'=>some r'
  |false,true,some r'=>some ((p,.rown t sz els g)::r')
  |false,false,some r'=>some ((k,.rown t sz els g)::r')
  |_,_,_=>none
 |(k,.abs j y)::r=>match YN k p,YN k q,Ct p q r with
  |true,_,some r'=>some r'
  |false,true,some r'=>some ((p,.abs j y)::r')
  |false,false,some r'=>some ((k,.abs j y)::r')
  |_,_,_=>none
def Env.ren (E:Env) (p q:Nat):Env:={E with r:=λl=>if l=p then E.r q else if l=q then none else E.r l,n:=λl=>if l=p then E.n q else E.n l}
def KI (p q l:Nat):Nat:=if l=q then p else l
def Bp (p q:Nat):Ob->Ob->Prop
 | .var t cs,y=>∃cs',pC (Er p q) cs=some cs'/\y= .var t cs'
 |x,y=>y=x
theorem Ik {p q:Nat} (hpq:p≠q) {l:Nat} {y:Ob}:∀{ob ob':List (Nat×Ob)},Ct p q ob=some ob'->go ob' l=some y->∃l0 x,l0≠p/\l=KI p q l0/\go ob l0=some x/\Bp p q x y
 |[],ob',h,hy=>by simp[Ct] at h;subst h;cases hy
 |(k,x)::r,ob',h,hy=>by
  have key:∀(x':Ob) (r':List (Nat×Ob)),Bp p q x x'->Ct p q r=some r'->(YN k p=true/\ob'=r')\/(YN k p=false/\YN k q=true/\ob'=(p,x')::r')\/(YN k p=false/\YN k q=false/\ob'=(k,x')::r')->
   ∃l0 x0,l0≠p/\l=KI p q l0/\go ((k,x)::r) l0=some x0/\Bp p q x0 y:=by
   intro x' r' hx hr hc
   have hrec:go r' l=some y->∃l0 x0,l0≠p/\l=KI p q l0/\go r l0=some x0/\Bp p q x0 y:=λh=>Ik hpq hr h
   rcases hc with⟨h1,rfl⟩|⟨h1,h2,rfl⟩|⟨h1,h2,rfl⟩
   .obtain⟨l0,x0,a1,a2,a3,a4⟩:=hrec hy
    have:=YT h1
    subst this
    exact⟨l0,x0,a1,a2,by rw[bH _ _ (Ne.symm a1)];exact a3,a4⟩
   .have:=YT h2
    subst this
    by_cases e:p=l
    .subst e
     rw[cz] at hy;cases hy
     exact⟨k,x,iY h1,by simp[KI],cz _ _ _,hx⟩
    rw[bH _ _ e] at hy
    obtain⟨l0,x0,a1,a2,a3,a4⟩:=hrec hy
    have hl0:k≠l0:=λe'=>e (by rw[a2,<-e'];simp[KI])
    exact⟨l0,x0,a1,a2,by rw[bH _ _ hl0];exact a3,a4⟩
   have hkp:=iY h1
   have hkq:=iY h2
   by_cases e:k=l
   .subst e
    rw[cz] at hy;cases hy
    exact⟨k,x,hkp,by simp[KI,hkq],cz _ _ _,hx⟩
   rw[bH _ _ e] at hy
   obtain⟨l0,x0,a1,a2,a3,a4⟩:=hrec hy
   have hl0:k≠l0:=λe'=>e (by rw[a2,<-e'];simp[KI,hkq])
   exact⟨l0,x0,a1,a2,by rw[bH _ _ hl0];exact a3,a4⟩
  cases x with
  |var t cs=>
   simp only[Ct] at h
   split at h
   .rename_i h1 h2
    cases h
    cases hm:pC (Er p q) cs with
    |some cs'=>exact key (.var t cs') _ ⟨cs',hm,rfl⟩ h2 (.inl ⟨h1,rfl⟩)
    |none=>
     obtain⟨l0,x0,a1,a2,a3,a4⟩:=Ik hpq h2 hy
     have:=YT h1
     subst this
     exact⟨l0,x0,a1,a2,by rw[bH _ _ (Ne.symm a1)];exact a3,a4⟩
   .rename_i h1 h2 h3 h4;cases h;exact key _ _ ⟨_,h3,rfl⟩ h4 (.inr (.inl ⟨h1,h2,rfl⟩))
   .rename_i h1 h2 h3 h4;cases h;exact key _ _ ⟨_,h3,rfl⟩ h4 (.inr (.inr ⟨h1,h2,rfl⟩))
   cases h
  |row t sz els g m=>
   simp only[Ct] at h
   split at h
   .rename_i h1 h2;cases h;exact key _ _ (show Bp p q (.row t sz els g m) (.row t sz els g m) from rfl) h2 (.inl ⟨h1,rfl⟩)
   .rename_i h1 h2 h3;cases h;exact key _ _ (show Bp p q (.row t sz els g m) (.row t sz els g m) from rfl) h3 (.inr (.inl ⟨h1,h2,rfl⟩))
   .rename_i h1 h2 h3;cases h;exact key _ _ (show Bp p q (.row t sz els g m) (.row t sz els g m) from rfl) h3 (.inr (.inr ⟨h1,h2,rfl⟩))
   cases h
  |rown t sz els g=>
   simp only[Ct] at h
   split at h
   .rename_i h1 h2;cases h;exact key _ _ (show Bp p q (.rown t sz els g) (.rown t sz els g) from rfl) h2 (.inl ⟨h1,rfl⟩)
   .rename_i h1 h2 h3;cases h;exact key _ _ (show Bp p q (.rown t sz els g) (.rown t sz els g) from rfl) h3 (.inr (.inl ⟨h1,h2,rfl⟩))
   .rename_i h1 h2 h3;cases h;exact key _ _ (show Bp p q (.rown t sz els g) (.rown t sz els g) from rfl) h3 (.inr (.inr ⟨h1,h2,rfl⟩))
   cases h
  |abs j z=>
   simp only[Ct] at h
   split at h
   .rename_i h1 h2;cases h;exact key _ _ (show Bp p q (.abs j z) (.abs j z) from rfl) h2 (.inl ⟨h1,rfl⟩)
   .rename_i h1 h2 h3;cases h;exact key _ _ (show Bp p q (.abs j z) (.abs j z) from rfl) h3 (.inr (.inl ⟨h1,h2,rfl⟩))
   .rename_i h1 h2 h3;cases h;exact key _ _ (show Bp p q (.abs j z) (.abs j z) from rfl) h3 (.inr (.inr ⟨h1,h2,rfl⟩))
   cases h
theorem UI {N nx:Nat} {sl sl':List (Nat×T)} {ob ob':List (Nat×Ob)} (p q:Nat) (hp:rsp p=false:=by exact rfl) (hq:rsv q=false:=by exact rfl) (hpq:YN p q=false:=by exact rfl) (hpn:nlt p nx=true:=by exact rfl) (hs:Bh (Er p q) sl=some sl':=by exact rfl) (hb:Ct p q ob=some ob':=by exact rfl):dO N ⟨sl,ob,nx⟩ ⟨sl',ob',nx⟩:=by
 have hne:=iY hpq
 intro cx E a w hR
 have hrp:(E.ren p q).r p=E.r q:=by simp[Env.ren]
 have hrl:∀l,l≠p->l≠q->(E.ren p q).r l=E.r l:=λl h1 h2=>by simp[Env.ren,h1,h2]
 have hnp:(E.ren p q).n p=E.n q:=by simp[Env.ren]
 have hnl:∀l,l≠p->(E.ren p q).n l=E.n l:=λl h1=>by simp[Env.ren,h1]
 have hr2:∀l b c,(E.ren p q).r l=some (b,c)->(l=p/\E.r q=some (b,c))\/(l≠p/\l≠q/\E.r l=some (b,c)):=by
  intro l b c h
  simp only[Env.ren] at h
  split at h
  .exact .inl ⟨by assumption,h⟩
  split at h
  .cases h
  exact .inr ⟨by assumption,by assumption,h⟩
 have hf:∀c c' u,Er p q c=some c'->cvC E w c u->cvC (E.ren p q) w c' u:=by
  intro c c' u h hc
  cases c with
  |w l n=>
   simp only[Er] at h
   split at h
   .cases h;trivial
   .rename_i h1 h2;cases h;have:=YT h2;subst this;obtain⟨b,k,h3,h4⟩:=hc;exact⟨b,k,hrp.trans h3,h4⟩
   rename_i h1 h2;cases h;obtain⟨b,k,h3,h4⟩:=hc;exact⟨b,k,(hrl _ (iY h1) (iY h2)).trans h3,h4⟩
  |wn l n=>
   simp only[Er] at h
   split at h
   .cases h;trivial
   .rename_i h1 h2;cases h;have:=YT h2;subst this
    rcases hc with⟨h3,h4⟩|⟨h3,b,k,h5,h6⟩
    .exact .inl ⟨by rw[hnp];exact h3,h4⟩
    exact .inr ⟨by rw[hnp];exact h3,b,k,hrp.trans h5,h6⟩
   rename_i h1 h2;cases h
   rcases hc with⟨h3,h4⟩|⟨h3,b,k,h5,h6⟩
   .exact .inl ⟨by rw[hnl _ (iY h1)];exact h3,h4⟩
   exact .inr ⟨by rw[hnl _ (iY h1)];exact h3,b,k,(hrl _ (iY h1) (iY h2)).trans h5,h6⟩
  |s l a1 a2 a3=>
   simp only[Er] at h
   split at h
   .cases h;trivial
   .rename_i h1 h2;cases h;have:=YT h2;subst this;obtain⟨A,c,b,k,h3,h4⟩:=hc;exact⟨A,c,b,k,hrp.trans h3,h4⟩
   rename_i h1 h2;cases h;obtain⟨A,c,b,k,h3,h4⟩:=hc;exact⟨A,c,b,k,(hrl _ (iY h1) (iY h2)).trans h3,h4⟩
  |p l n=>
   simp only[Er] at h
   split at h
   .cases h;trivial
   .rename_i h1 h2;cases h;have:=YT h2;subst this;obtain⟨b,k,h3,h4⟩:=hc;exact⟨b,k,hrp.trans h3,h4⟩
   rename_i h1 h2;cases h;obtain⟨b,k,h3,h4⟩:=hc;exact⟨b,k,(hrl _ (iY h1) (iY h2)).trans h3,h4⟩
  |e l a1 a2 a3=>
   simp only[Er] at h
   split at h
   .cases h;trivial
   .rename_i h1 h2;cases h;have:=YT h2;subst this;obtain⟨b,k,h3,h4⟩:=hc;exact⟨b,k,hrp.trans h3,h4⟩
   rename_i h1 h2;cases h;obtain⟨b,k,h3,h4⟩:=hc;exact⟨b,k,(hrl _ (iY h1) (iY h2)).trans h3,h4⟩
  |_=>simp only[Er] at h;cases h;exact hc
 have ok:=hR.ok
 have hback:∀l b c,(E.ren p q).r l=some (b,c)->∃l',E.r l'=some (b,c):=λl b c h=>(hr2 l b c h).elim (λh=>⟨q,h.2⟩) (λh=>⟨l,h.2.2⟩)
 refine⟨E.ren p q,⟨ok.fb,ok.gf,ok.gn,λl b c h=>?_,λl l' b c c' h h'=>?_,ok.os,ok.tape,ok.output,ok.size,ok.block,λl x hv h=>?_,ok.ff,ok.gc,⟨λl b h=>?_,ok.sf.tt,λb h=>?_,ok.sf.zs,ok.sf.ze⟩⟩,λl x h=>?_,λl y hl=>?_,λk=>zW hf hs (hR.sl k),hR.dfr,hR.size,hR.td⟩
 .rcases hr2 l b c h with⟨_,h⟩|⟨_,_,h⟩
  .obtain⟨k1,k2⟩:=ok.rb _ _ _ h
   exact⟨k1,.inl (k2.resolve_right (λk=>by rw[hq] at k;cases k.2))⟩
  exact ok.rb l b c h
 .rcases hr2 l b c h with⟨rfl,k3⟩|⟨k1,k2,k3⟩<;>rcases hr2 l' b c' h' with⟨e,m3⟩|⟨m1,m2,m3⟩
  .exact e.symm
  .exact absurd (ok.inj _ _ _ _ _ m3 k3) m2
  .exact absurd (ok.inj _ _ _ _ _ k3 m3) k2
  exact ok.inj _ _ _ _ _ k3 m3
 .obtain⟨b,c⟩:=x
  rcases hr2 l b c h with⟨rfl,_⟩|⟨_,_,h⟩
  .rw[hp] at hv;cases hv
  exact ok.pin l _ hv h
 .obtain⟨k1,k2,k3,k4⟩:=ok.sf.tb l b h
  exact⟨k1,k2,λl' c hl=>(hback l' b c hl).elim λl'' h''=>k3 l'' c h'',k4⟩
 .obtain⟨k1,k2,k3,k4⟩:=ok.sf.zc b h
  exact⟨k1,k2,λl' c hl=>(hback l' b c hl).elim λl'' h''=>k3 l'' c h'',k4⟩
 .obtain⟨b,c⟩:=x
  rcases hr2 l b c h with⟨rfl,_⟩|⟨_,_,h⟩
  .exact cX hpn
  exact hR.dom l _ h
 obtain⟨l0,x,a1,a2,a3,a4⟩:=Ik hne hb hl
 have hx:=hR.obs l0 x a3
 have hlab:(E.ren p q).r l=E.r l0/\(E.ren p q).n l=E.n l0:=by
  subst a2
  unfold KI
  split
  .rename_i e;subst e;exact⟨hrp,hnp⟩
  rename_i e;exact⟨hrl _ a1 e,hnl _ a1⟩
 cases x with
 |var t cs=>
  obtain⟨cs',h1,rfl⟩:=a4
  obtain⟨b,c,arr,k1,k2,k3,k4⟩:=hx
  exact⟨b,c,arr,hlab.1.trans k1,k2,ue hf h1 k3,k4⟩
 |row t sz els g m=>
  have a4:y= .row t sz els g m:=a4
  subst a4
  obtain⟨b,c,arr,k1,k2⟩:=hx
  exact⟨b,c,arr,hlab.1.trans k1,k2⟩
 |rown t sz els g=>
  have a4:y= .rown t sz els g:=a4
  subst a4
  rcases hx with⟨h1,h2⟩|⟨h1,b,c,arr,k1,k2⟩
  .exact .inl ⟨by rw[hlab.2];exact h1,h2⟩
  exact .inr ⟨by rw[hlab.2];exact h1,b,c,arr,hlab.1.trans k1,k2⟩
 |abs j z=>
  have a4:y= .abs j z:=a4
  subst a4
  rcases hx with⟨h1,h2⟩|⟨h1,b,c,k1,k2⟩
  .exact .inl ⟨by rw[hlab.2];exact h1,h2⟩
  exact .inr ⟨by rw[hlab.2];exact h1,b,c,hlab.1.trans k1,k2⟩
structure VIn (E:Env) (w:World):Prop where
 fb:∀b,E.F b->b<w.heap.size
 gf:∀b,E.G b->E.F b
 rb:∀o b c,E.r o=some (b,c)->b<w.heap.size/\rsv o=true/\¬E.F b
 inj:∀o o' b c c',E.r o=some (b,c)->E.r o'=some (b,c')->o=o'
 T:∀l b,¬E.T l b
 Z:∀b,¬E.Z b
structure VOut (E:Env) (w:World) (E':Env) (w':World):Prop where
 past:Ja w w' (λk=>∃o c,E.r o=some (k,c))
 fb:∀b,E'.F b->b<w'.heap.size
 f0:∀b,E'.F b->E.F b\/(w.heap.size<=b/\je w' b)
 F:∀b,E.F b->E'.F b
 G:∀b,E.G b->E'.G b
 gf:∀b,E'.G b->E'.F b
 g0:∀b,E'.G b->w.heap.size<=b\/E.G b
 rb:∀o b c,E'.r o=some (b,c)->b<w'.heap.size/\(w.heap.size<=b\/((∃o' c',E.r o'=some (b,c'))/\rsv o=true))
 inj:∀o o' b c c',E'.r o=some (b,c)->E'.r o'=some (b,c')->o=o'
 pin:∀o x,rsp o=true->E'.r o=some x->E.r o=some x
structure FnV (P:Program) (f:FuncId) (xs:List (Nat×Ob)) (args:List T) (ys:List (Nat×Ob)) (out:T) (nw:List (Nat×Ob)):Prop where
 enters:∀(vs:Array Value) (w:World),(callFunc f vs).run P w= .ok (.enter f vs) w
 calls:∀(E:Env) (w:World) (vals:Array Value),VIn E w->TabsIn w->(∀k∈vm,∀o c,E.r o≠some (k,c))->(∀l x,go xs l=some x->cP E w l x)->TV E w args vals.toList->
  Calls P f vals w λe w'=>∃v E',e= .returned v/\VOut E w E' w'/\cvT E' w' out v/\(∀l y,go ys l=some y->cP E' w' l y)/\(∀l y,go nw l=some y->cP E' w' l y)
def Tu:List V->T
 |[v]=>.v v
 |vs=>.tup vs
def LoA (ob:List (Nat×Ob)):List (Nat×Ob)->Prop
 |[]=>True
 |(l,x)::r=>go ob l=some x/\LoA ob r
theorem Hg {ob:List (Nat×Ob)}:∀{l:List (Nat×Ob)} {k:Nat} {x:Ob},LoA ob l->go l k=some x->go ob k=some x
 |(j,y)::r,k,x,h,hg=>by
  by_cases e:j=k
  .subst e;rw[cz] at hg;cases hg;exact h.1
  rw[bH _ _ e] at hg;exact Hg h.2 hg
def vW (N:Nat) (P:Program) (rs:List ResultVar) (ys:List (Nat×Ob)) (out:T) (nw:List (Nat×Ob)):Exit->St->Prop
 | .ret,s| .normal,s=>∃s' vs,dO N s s'/\qd P s' rs vs/\Tu vs=out/\LoA s'.ob ys/\LoA s'.ob nw
 |_,_=>False
instance {N:Nat} {P:Program} {rs:List ResultVar} {ys:List (Nat×Ob)} {out:T} {nw:List (Nat×Ob)}:Clo N (vW N P rs ys out nw):=⟨λe s m hw h=>by
 cases e<;>simp only[vW] at h ⊢<;>first|exact h|(obtain⟨s',vs,h1,h2⟩:=h;exact⟨s',vs,aH hw h1,h2⟩)⟩
theorem tQ {N:Nat} {P:Program} {rs:List ResultVar} {res:List RV} {e:Exit} {s m:St} (hw:dO N s m) (h:Hh N P rs res e m):Hh N P rs res e s:=Clo.h (N:=N) _ _ _ hw h
theorem bO {N:Nat} {P:Program} {rs:List ResultVar} {ys:List (Nat×Ob)} {out:T} {nw:List (Nat×Ob)} {e:Exit} {s m:St} (hw:dO N s m) (h:vW N P rs ys out nw e m):vW N P rs ys out nw e s:=Clo.h (N:=N) _ _ _ hw h
theorem cV {N:Nat} {P:Program} {s:St} {rs:List ResultVar} {ys:List (Nat×Ob)} {out out':T} {nw:List (Nat×Ob)} {vs:List V} (h:qd P s rs vs:=by repeat' (first|exact .nil|apply qd.cons|exact .tmp rfl|exact .cell rfl rfl rfl|exact .cell1 rfl rfl)) (ho:Tu vs=out':=by exact rfl) (e:out'=out:=by first|rfl|simp) (hy:LoA s.ob ys:=by repeat (first|exact trivial|refine⟨rfl,?_⟩)) (hn:LoA s.ob nw:=by repeat (first|exact trivial|refine⟨rfl,?_⟩)):vW N P rs ys out nw .ret s:=by
 subst e;exact⟨s,vs,xJ s,h,ho,hy,hn⟩
theorem rf {N:Nat} {P:Program} {s:St} {rs:List ResultVar} {ys:List (Nat×Ob)} {out out':T} {nw:List (Nat×Ob)} {vs:List V} (h:qd P s rs vs:=by repeat' (first|exact .nil|apply qd.cons|exact .tmp rfl|exact .cell rfl rfl rfl|exact .cell1 rfl rfl)) (ho:Tu vs=out':=by exact rfl) (e:out'=out:=by first|rfl|simp) (hy:LoA s.ob ys:=by repeat (first|exact trivial|refine⟨rfl,?_⟩)) (hn:LoA s.ob nw:=by repeat (first|exact trivial|refine⟨rfl,?_⟩)):vW N P rs ys out nw .normal s:=by
 subst e;exact⟨s,vs,xJ s,h,ho,hy,hn⟩
theorem Yi {o:Nat} (h:rsv o=true):o<210:=by
 simp only[rsv,nlt,v0,Nat.ble_eq] at h;omega
theorem R8 {P:Program} {f:FuncId} {fn:Func} {c:Code} {N:Nat} {xs ys:List (Nat×Ob)} {args:List T} {rs:List ResultVar} {out:T} {nw:List (Nat×Ob)} {sl0:List (Nat×T)} (hf:P.funcs[f]?=some fn) (hb:fn.body=some c:=by exact rfl) (hnm:(fn.name== "runtime.NumGoroutine")=false:=by kernel_rfl) (hN:fn.ntmps=N) (hrs:fn.results.toList=rs:=by exact rfl)
 (ha:Zi args.length N=true:=by exact rfl) (hs:wa 0 args=sl0:=by exact rfl) (h:AWC P N c ⟨sl0,xs,210⟩ (vW N P rs ys out nw)):FnV P f xs args ys out nw:=by
 subst hs
 refine⟨λvs w=>by simp[callFunc,hf,hb];simpa using hnm,λE w vals hI hT hTb hx hA=>?_⟩
 subst hrs
 refine calls_of_wp hf hb ?_
 obtain⟨h1,h2⟩:=CD 0 hA
 have hle:args.length<=N:=Zx ha
 have hsz:vals.size=args.length:=by simpa using h1
 have hR:Rel N ⟨w,λk=>∃o c,E.r o=some (k,c),E.r,E.F,λ_=>False,⟨hT,λk hk ⟨o,c,h⟩=>hTb k hk o c h⟩,E.G⟩ E ⟨wa 0 args,xs,210⟩ {tmps:=vals++Y5 (fn.ntmps-vals.size) undef,defers:=[]} w:=by
  refine⟨⟨hI.fb,hI.gf,λ_ h=>.inr h,λo k k' h=>?_,hI.inj,rfl,rfl,rfl,YW _,λ_ _ _=>rfl,λ_ _ _ h=>h,λ_ h=>.inl h,λb h h'=>absurd (hI.fb b h) (by have:w.heap.size<=b:=h';omega),⟨λl b h=>absurd h (hI.T l b),λl _ b h=>absurd h (hI.T l b),λ_ h=>h.elim,λ_ h=>h.elim,λb h=>absurd h (hI.Z b)⟩⟩,λo p h=>?_,λo ob h=>hx o ob h,λk=>?_,rfl,by simp;omega,λl b h=>absurd h (hI.T l b)⟩
  .obtain⟨k1,k2,_⟩:=hI.rb o k k' h;exact⟨k1,.inr ⟨⟨o,k',h⟩,k2⟩⟩
  .exact Yi (hI.rb o p.1 p.2 h).2.1
  by_cases hk:k<args.length
  .obtain⟨u,h3,h4⟩:=(h2 k).1 ⟨Y0 _,by omega⟩
   have:(vals++Y5 (fn.ntmps-vals.size) undef).getD k undef=u:=by
    have h5:vals[k]?=some u:=by simpa using h3
    have h6:(vals++Y5 (fn.ntmps-vals.size) undef)[k]?=some u:=by rw[Z9 oaa];exact h5
    simp[h6]
   rw[this];exact h4
  have:=(h2 k).2 oaa
  show cvT _ w (gt (wa 0 args) k) _
  rw[this];trivial
 refine wp_mono (h _ _ _ w hR) ?_
 rintro e a' w' ⟨E',s',hR',hq⟩
 have fin:(∃s'' vs,dO N s' s''/\qd P s'' fn.results.toList vs/\Tu vs=out/\LoA s''.ob ys/\LoA s''.ob nw)->
  a'.defers=[]/\∃v,(results fn a'.tmps).run P w'= .ok v w'/\∃v' E',Ending.returned v= .returned v'/\VOut E w E' w'/\cvT E' w' out v'/\(∀l y,go ys l=some y->cP E' w' l y)/\(∀l y,go nw l=some y->cP E' w' l y):=by
  rintro⟨s'',vs,hw,hres,ho,hys,hnw⟩
  obtain⟨E'',hR''⟩:=hw _ _ _ _ hR'
  have ok:=hR''.ok
  obtain⟨us,k1,k2⟩:=vX hR'' hres
  have hm:(fn.results.mapM (mG a'.tmps)).run P w'= .ok us.toArray w':=by
   rw[<-ZE (xs:=fn.results),aaf]
   simp only[Sem.run_map,k1]
   rfl
  have hrr:results fn a'.tmps=(fn.results.mapM (mG a'.tmps))>>= λvs=>pure (if h:vs.size=1 then vs[0] else .tuple vs):=rfl
  have hv:∃v,(results fn a'.tmps).run P w'= .ok v w'/\cvT E'' w' out v:=by
   subst ho
   match vs,us,k2 with
   |[],[],_=>exact⟨.tuple #[],by rw[hrr];simp[hm],#[],rfl,trivial⟩
   |[v],[u],k2=>exact⟨u,by rw[hrr];simp[hm],k2.1⟩
   |v1::v2::vs,u1::u2::us,k2=>exact⟨.tuple (u1::u2::us).toArray,by rw[hrr];simp[hm],_,rfl,k2⟩
  obtain⟨v,q1,q2⟩:=hv
  have hk:kt E'' w' {E'' with F:=λb=>E''.F b\/E.F b,G:=λb=>E''.G b\/E.G b} w':=⟨λ_ _ h=>h,λg b h=>by cases g<;>exact .inl h,λ_ _ _=>rfl,λ_ _ h=>⟨h,rfl⟩,λ_ h=>⟨h,.refl _ _⟩,rfl⟩
  have hob:∀l y,go s''.ob l=some y->cP {E'' with F:=λb=>E''.F b\/E.F b,G:=λb=>E''.G b\/E.G b} w' l y:=λl y h=>
   gE hk (λ_ _ _=>rfl) (λb c hr hn hF=>hF.elim hn (λhF=>by
    rcases(ok.rb l b c hr).2 with k|⟨⟨o,c',k⟩,_⟩
    .have:=hI.fb b hF;simp only at k;omega
    exact(hI.rb o b c' k).2.2 hF)) (hR''.obs l y h)
  refine⟨hR''.dfr,v,q1,v,{E'' with F:=λb=>E''.F b\/E.F b,G:=λb=>E''.G b\/E.G b},rfl,⟨⟨ok.os,ok.tape,ok.output,ok.size,ok.block⟩,λb h=>h.elim (ok.fb b) (λh=>by have:=hI.fb b h;have:=ok.size;simp only at this;omega),λb h=>h.elim (λh=>(ok.ff b h).elim .inl (λk=>.inr ⟨k,ok.gc b h k⟩)) .inl,λb h=>.inr h,λb h=>.inr h,λb h=>h.imp (ok.gf b) (hI.gf b),λb h=>h.elim (ok.gn b) .inr,λo b c h=>?_,ok.inj,λo x hv h=>?_⟩,?_,?_,?_⟩
  .obtain⟨m1,m2⟩:=ok.rb o b c h
   exact⟨m1,m2⟩
  .exact ok.pin o x hv h
  .exact jX hk q2
  .exact λl y h=>hob l y (Hg hys h)
  exact λl y h=>hob l y (Hg hnw h)
 cases e with
 |normal=>exact fin hq
 |ret=>exact fin hq
 |_=>exact hq.elim
open Go.RowKit
def dv:List (Nat×Nat)->Nat->Option Nat
 |[],_=>none
 |(a,b)::r,n=>match YN a n with
  |true=>some b
  |false=>dv r n
def inv:List (Nat×Nat)->List (Nat×Nat)
 |[]=>[]
 |(a,b)::r=>(b,a)::inv r
theorem eg {a b:Nat}:∀{m:List (Nat×Nat)},dv m a=some b->(a,b)∈m
 |(x,y)::r,h=>by
  simp only[dv] at h
  split at h
  .rename_i hb;have:=YT hb;subst this;cases h;exact .head _
  exact .tail _ (eg h)
theorem jl {a b:Nat}:∀{m:List (Nat×Nat)},(m.map (·.1)).Nodup->(a,b)∈m->dv m a=some b
 |(x,y)::r,hn,h=>by
  simp only[dv]
  simp only[Ze,ZH] at hn
  rcases YU.1 h with e|h
  .cases e;simp
  have hne:x≠a:=λe=>hn.1 (by subst e;exact ZQ.2 ⟨_,h,rfl⟩)
  rw[tc hne];exact jl hn.2 h
theorem qy {a b:Nat}:∀{m:List (Nat×Nat)},(b,a)∈inv m↔(a,b)∈m
 |[]=>by simp[inv]
 |(x,y)::r=>by
  simp only[inv,YU,Prod.mk.injEq,qy (m:=r)]
  constructor
  .rintro(⟨h1,h2⟩|h)
   .exact .inl ⟨h2,h1⟩
   exact .inr h
  rintro(⟨h1,h2⟩|h)
  .exact .inl ⟨h2,h1⟩
  exact .inr h
theorem wQ:∀(m:List (Nat×Nat)),(inv m).map (·.1)=m.map (·.2)
 |[]=>rfl
 |(x,y)::r=>by simp[inv,wQ r]
def rlC (m:List (Nat×Nat)):C->Option C
 | .d g x=>some (.d g x)
 | .nil=>some .nil
 | .any=>some .any
 | .fn f=>some (.fn f)
 | .w l n=>match dv m l with
  |some k=>some (.w k n)
  |none=>none
 | .wn l n=>match dv m l with
  |some k=>some (.wn k n)
  |none=>none
 | .p l j=>match dv m l with
  |some k=>some (.p k j)
  |none=>none
 |_=>none
def rlB (ob:List (Nat×Ob)) (m:List (Nat×Nat)):C->Option C
 | .d g x=>some (.d g x)
 | .nil=>some .nil
 | .any=>some .any
 | .fn f=>some (.fn f)
 | .w l n=>match dv m l,go ob l with
  |some k,some (.row ..)=>some (.w k n)
  |_,_=>none
 | .wn l n=>match dv m l,go ob l with
  |some k,some (.rown ..)=>some (.wn k n)
  |_,_=>none
 | .p l j=>match dv m l,go ob l with
  |some k,some (.var ..)=>some (.p k j)
  |_,_=>none
 |_=>none
def agC (up:Bool) (ob:List (Nat×Ob)) (m:List (Nat×Nat)):C->Option C
 | .d g x=>some (.d (up&&g) x)
 | .nil=>some (.d up (.l []))
 |c=>rlB ob m c
def vM (f:C->Option C):List T->Option (List T)
 |[]=>some []
 |c::cs=>match zX f c,vM f cs with
  |some x,some xs=>some (x::xs)
  |_,_=>none
def Fx (f:C->Option C):Ob->Option Ob
 | .var t cs=>match pC f cs with
  |some cs'=>some (.var t cs')
  |none=>none
 | .row t sz els g true=>some (.row t sz els g true)
 | .row _ _ _ _ false=>none
 | .rown t sz els g=>some (.rown t sz els g)
 | .abs _ _=>none
def Ab (mi:List (Nat×Nat)) (ob:List (Nat×Ob)):List (Nat×Nat)->Option (List (Nat×Ob))
 |[]=>some []
 |(k,o)::r=>match go ob o with
  |some x=>match Fx (rlB ob mi) x,Ab mi ob r with
   |some y,some ys=>some ((k,y)::ys)
   |_,_=>none
  |none=>none
def vN (m:List (Nat×Nat)):List (Nat×Ob)->Option (List (Nat×Ob))
 |[]=>some []
 |(k,x)::r=>match dv m k,Fx (rlC m) x,vN m r with
  |some o,some y,some ys=>some ((o,y)::ys)
  |_,_,_=>none
def kvC (mi:List (Nat×Nat)):C->Option C
 | .w l n=>match dv mi l with
  |some _=>some .any
  |none=>some (.w l n)
 | .wn l n=>match dv mi l with
  |some _=>some .any
  |none=>some (.wn l n)
 | .s l a b c=>match dv mi l with
  |some _=>some .any
  |none=>some (.s l a b c)
 | .e l a b c=>match dv mi l with
  |some _=>some .any
  |none=>some (.e l a b c)
 | .p l j=>match dv mi l with
  |some k=>match rsp k with
   |true=>some (.p l j)
   |false=>some .any
  |none=>some (.p l j)
 |c=>some c
def Sm (ys:List (Nat×Ob)) (k:Nat):Bool:=match go ys k with
 |some (.var ..)=>true
 |_=>false
def Nv (nx:Nat):List (Nat×Nat)->Nat->Bool
 |[],n=>YN n nx
 |(k,o)::r,n=>((YN o nx&&!rsv nx)&&!rsv k)&&Nv (nx+1) r n
def mOK (m nl:List (Nat×Nat)) (nx n:Nat) (ys:List (Nat×Ob)):Bool:=
 ((oB ((m++nl).map (·.1))&&oB ((m++nl).map (·.2)))&&(m.all (λp=>rsv p.1&&nlt p.2 nx)&&Nv nx nl n))&&
  ((m.all (λp=>rsp p.1||rsv p.2)||m.all (λp=>rsp p.1||!rsv p.2))&&m.all (λp=>(!rsp p.2||rsp p.1)&&((!rsp p.1||Sm ys p.1)&&(go ys p.1).isSome)))
theorem Jt:∀{nl:List (Nat×Nat)} {nx n:Nat},Nv nx nl n=true->nx<=n/\∀k o,(k,o)∈nl->nx<=o/\o<n/\rsv o=false/\rsv k=false
 |[],nx,n,h=>by have:=YT h;subst this;exact⟨YW _,by simp⟩
 |(k,o)::r,nx,n,h=>by
  simp only[Nv,v0,Zf] at h
  obtain⟨⟨⟨h1,h2⟩,h3⟩,h4⟩:=h
  have:=YT h1
  subst this
  obtain⟨k1,k2⟩:=Jt h4
  refine⟨by omega,λk' o' hm=>?_⟩
  rcases YU.1 hm with e|hm
  .cases e;exact⟨YW _,by omega,h2,h3⟩
  have:=k2 k' o' hm;exact⟨by omega,this.2.1,this.2.2⟩
theorem Ed {f:C->Option C} {E E':Env} {w w':World} (hf:∀c c' u,f c=some c'->cvC E w c u->cvC E' w' c' u) {a:Act}:∀{ts ts':List T} {args:List Operand},vM f ts=some ts'->ts.length=args.length->(∀x t,(x,t)∈args.zip ts->cvT E w t (a.eval x))->TV E' w' ts' (args.map a.eval)
 |[],ts',args,h,hl,hn=>by
  simp[vM] at h;subst h
  cases args with
  |nil=>trivial
  |cons _ _=>simp at hl
 |t::ts,ts',args,h,hl,hn=>by
  simp only[vM] at h
  split at h
  .rename_i h1 h2
   simp at h;subst h
   cases args with
   |nil=>simp at hl
   |cons y args=>exact⟨zY hf h1 (hn y t (by simp)),Ed hf h2 (by simpa using hl) (λx t hm=>hn x t (by simp[hm]))⟩
  cases h
theorem Kx {mi:List (Nat×Nat)} {ob:List (Nat×Ob)}:∀{m:List (Nat×Nat)} {xs:List (Nat×Ob)} {l:Nat} {x:Ob},Ab mi ob m=some xs->go xs l=some x->∃o x0,dv m l=some o/\go ob o=some x0/\Fx (rlB ob mi) x0=some x
 |[],xs,l,x,h,hg=>by simp[Ab] at h;subst h;cases hg
 |(k,o)::r,xs,l,x,h,hg=>by
  simp only[Ab] at h
  split at h
  .rename_i x0 h0
   split at h
   .rename_i y ys h1 h2
    simp at h;subst h
    by_cases e:k=l
    .subst e;rw[cz] at hg;cases hg;exact⟨o,x0,by simp[dv],h0,h1⟩
    rw[bH _ _ e] at hg
    obtain⟨o',x',a1,a2,a3⟩:=Kx h2 hg
    exact⟨o',x',by simp only[dv,tc e];exact a1,a2,a3⟩
   cases h
  cases h
theorem Gw {mi:List (Nat×Nat)} {ob:List (Nat×Ob)}:∀{m:List (Nat×Nat)} {xs:List (Nat×Ob)} {k o:Nat},Ab mi ob m=some xs->(k,o)∈m->∃x0 x,go ob o=some x0/\Fx (rlB ob mi) x0=some x
 |(k',o')::r,xs,k,o,h,hm=>by
  simp only[Ab] at h
  split at h
  .rename_i x0 h0
   split at h
   .rename_i y ys h1 h2
    rcases YU.1 hm with e|hm
    .cases e;exact⟨x0,y,h0,h1⟩
    exact Gw h2 hm
   cases h
  cases h
theorem Eu {m:List (Nat×Nat)} (hinj:∀a a' b,dv m a=some b->dv m a'=some b->a=a'):∀{ys ys':List (Nat×Ob)} {o:Nat} {y':Ob},vN m ys=some ys'->go ys' o=some y'->∃k y,dv m k=some o/\go ys k=some y/\Fx (rlC m) y=some y'
 |[],ys',o,y',h,hg=>by simp[vN] at h;subst h;cases hg
 |(k,x)::r,ys',o,y',h,hg=>by
  simp only[vN] at h
  split at h
  .rename_i o1 y1 ys1 h1 h2 h3
   simp at h;subst h
   by_cases e:o1=o
   .subst e;rw[cz] at hg;cases hg;exact⟨k,x,h1,cz _ _ _,h2⟩
   rw[bH _ _ e] at hg
   obtain⟨k',y,a1,a2,a3⟩:=Eu hinj h3 hg
   have hne:k≠k':=λe'=>by subst e';rw[h1] at a1;cases a1;exact e rfl
   exact⟨k',y,a1,by rw[bH _ _ hne];exact a2,a3⟩
  cases h
theorem Sg {a b:List (Nat×Ob)} {o:Nat} {x:Ob} (h:go (a++b) o=some x):go a o=some x\/(go a o=none/\go b o=some x):=by
 induction a with
 |nil=>exact .inr ⟨rfl,h⟩
 |cons p r ih=>
  obtain⟨k,v⟩:=p
  by_cases e:k=o
  .subst e;rw[Zm,cz] at h;rw[cz];exact .inl h
  rw[Zm,bH _ _ e] at h;rw[bH _ _ e];exact ih h
theorem Ev {m:List (Nat×Nat)}:∀{ys ys':List (Nat×Ob)} {k:Nat} {y:Ob},vN m ys=some ys'->go ys k=some y->∃o,dv m k=some o/\go ys' o≠none
 |(k',x)::r,ys',k,y,h,hg=>by
  simp only[vN] at h
  split at h
  .rename_i o1 y1 ys1 h1 h2 h3
   simp at h;subst h
   by_cases e:k'=k
   .subst e;exact⟨o1,h1,by rw[cz];simp⟩
   rw[bH _ _ e] at hg
   obtain⟨o,a1,a2⟩:=Ev h3 hg
   refine⟨o,a1,?_⟩
   by_cases e2:o1=o
   .subst e2;rw[cz];simp
   rw[bH _ _ e2];exact a2
  cases h
theorem Ah {E E':Env} {w:World} {f:C->Option C} {l o:Nat} {x y:Ob} (h:Fx f x=some y) (hf:∀c c' u,f c=some c'->cvC E w c u->cvC E' w c' u) (hr:∀b c,¬(E.n l/\∃t sz els g,x= .rown t sz els g)->E.r l=some (b,c)->E'.r o=some (b,c)) (hn:E'.n o↔E.n l)
 (hH:∀g b,E.H g b->E'.H g b) (hF:∀b c,¬(E.n l/\∃t sz els g,x= .rown t sz els g)->E.r l=some (b,c)->¬E.F b->¬E'.F b) (hx:cP E w l x):cP E' w o y:=by
 cases x with
 |var t cs=>
  simp only[Fx] at h
  split at h
  .rename_i h1;cases h
   obtain⟨b,c,arr,k1,k2,k3,k4⟩:=hx
   have hno:¬(E.n l/\∃t' sz els g,Ob.var t cs= .rown t' sz els g):=λ⟨_,_,_,_,_,h⟩=>by cases h
   exact⟨b,c,arr,hr b c hno k1,k2,ue hf h1 k3,hF b c hno k1 k4⟩
  cases h
 |row t sz els g mm=>
  cases mm with
  |false=>cases h
  |true=>
   cases h
   obtain⟨b,c,arr,k1,k2,k3,k4,k5,k6,k7,k8,_⟩:=hx
   have hno:¬(E.n l/\∃t' sz' els' g',Ob.row t sz els g true= .rown t' sz' els' g'):=λ⟨_,_,_,_,_,h⟩=>by cases h
   exact⟨b,c,arr,hr b c hno k1,k2,k3,k4,k5,k6,ct (λ_ _=>rfl) (hH g) rfl _ _ k7,λ_=>hF b c hno k1 (k8 rfl),λh=>by cases h⟩
 |rown t sz els g=>
  cases h
  rcases hx with⟨h1,h2⟩|⟨h1,b,c,arr,k1,k2,k3,k4,k5,k6,k7,k8⟩
  .exact .inl ⟨hn.2 h1,h2⟩
  exact .inr ⟨λk=>h1 (hn.1 k),b,c,arr,hr b c (λk=>h1 k.1) k1,k2,k3,k4,k5,k6,ct (λ_ _=>rfl) (hH g) rfl _ _ k7,hF b c (λk=>h1 k.1) k1 k8⟩
 |abs j z=>cases h
def ltF (n:Nat) (f:C->Option C) (c:C):Option C:=bif c.lt n then f c else some .any
theorem Kh {n:Nat} {f:C->Option C}:∀{cs:List C},cs.all (C.lt n)=true->pC (ltF n f) cs=pC f cs
 |[],_=>rfl
 |c::cs,h=>by
  simp only[Zt,v0] at h
  simp only[pC,Kh h.2,ltF,h.1,cond_true]
theorem Og {n:Nat} {f:C->Option C} {v:V} (h:v.lt n=true):H3 (ltF n f) v=H3 f v:=by
 cases v with
 |c c=>have h:c.lt n=true:=h;simp only[H3,ltF,h,cond_true]
 |agg cs=>simp only[H3,Kh (n:=n) (cs:=cs) h]
theorem Ki {n:Nat} {f:C->Option C}:∀{cs:List V},cs.all (V.lt n)=true->BN (ltF n f) cs=BN f cs
 |[],_=>rfl
 |c::cs,h=>by
  simp only[Zt,v0] at h
  simp only[BN,Ki h.2,Og h.1]
theorem VB {n:Nat} {f:C->Option C} {t:T} (h:t.lt n=true):zX (ltF n f) t=zX f t:=by
 cases t with
 |v v=>simp only[zX,Og (n:=n) (v:=v) h]
 |tup vs=>simp only[zX,Ki (n:=n) (cs:=vs) h]
 |any=>rfl
theorem Of {n:Nat} {f:C->Option C}:∀{sl:List (Nat×T)},FE n sl=true->Bh (ltF n f) sl=Bh f sl
 |[],_=>rfl
 |(k,t)::r,h=>by
  simp only[FE,v0] at h
  simp only[Bh,VB h.1,Of h.2]
open Classical in
theorem Oz {up:Bool} {P:Program} {N:Nat} {d:Tmp} {ty:TypeId} {ps:String} {af:Array Edge} {gd:Option (Nat×Bool)} {f:FuncId} {args:List Operand} {tys:Array TypeId} {sl sl':List (Nat×T)} {ob ob':List (Nat×Ob)} {nx n:Nat} {ts ts':List T} {xs ys ys' nw nw':List (Nat×Ob)} {out out':T} {m nl:List (Nat×Nat)}
 (hF:FnV P f xs ts' ys out nw) (ht:Bj sl args=some ts) (ha:vM (agC up ob (inv m)) ts=some ts') (hx:Ab (inv m) ob m=some xs) (hm:mOK m nl nx n ys=true) (hs:Bh (kvC (inv m)) sl=some sl') (hb:yQ (kvC (inv m)) (λ_ x=>some x) ob=some ob')
 (hy:vN (m++nl) ys=some ys') (hw:vN (m++nl) nw=some nw') (ho:zX (rlC (m++nl)) out=some out') (hsl:FE nx sl=true) (hol:BR nx ob=true) (hN:nlt d N=true):
 AWO P N ⟨some d,.call ⟨.value (.func f),args.toArray,tys⟩,ty,ps,af,gd⟩ ⟨sl,ob,nx⟩ ⟨(d,out')::sl',nw'++(ys'++ob'),n⟩:=by
 intro cx E a w hR
 have ok:=hR.ok
 obtain⟨t1,t2⟩:=sP ht
 simp only[mOK,v0,YX,Y6,Zf] at hm
 obtain⟨⟨⟨hk1,hk2⟩,hm1,hc⟩,hu,hm2⟩:=hm
 have nd1:=ke hk1
 have nd2:=ke hk2
 obtain⟨hnn,hcu⟩:=Jt hc
 have ndm1:(m.map (·.1)).Nodup:=by rw[ZU] at nd1;exact(aac.1 nd1).1
 have ndm2:(m.map (·.2)).Nodup:=by rw[ZU] at nd2;exact(aac.1 nd2).1
 have inv_of:∀{k o},dv m k=some o->dv (inv m) o=some k:=λh=>jl (by rw[wQ];exact ndm2) (qy.2 (eg h))
 have of_inv:∀{k o},dv (inv m) o=some k->dv m k=some o:=λh=>jl ndm1 (qy.1 (eg h))
 have inv_of':∀{k o},dv (m++nl) k=some o->dv (inv (m++nl)) o=some k:=λh=>jl (by rw[wQ];exact nd2) (qy.2 (eg h))
 have of_inv':∀{k o},dv (inv (m++nl)) o=some k->dv (m++nl) k=some o:=λh=>jl nd1 (qy.1 (eg h))
 have look_m:∀{k o},dv m k=some o->dv (m++nl) k=some o:=λh=>jl nd1 (YR.2 (.inl (eg h)))
 have split:∀{k o},dv (m++nl) k=some o->dv m k=some o\/(k,o)∈nl:=λh=>(YR.1 (eg h)).imp (jl ndm1) id
 have linj:∀a a' b,dv m a=some b->dv m a'=some b->a=a':=λa a' b h h'=>by have h:=inv_of h;have h':=inv_of h';rw[h] at h';cases h';rfl
 have linj':∀a a' b,dv (m++nl) a=some b->dv (m++nl) a'=some b->a=a':=λa a' b h h'=>by have h:=inv_of' h;have h':=inv_of' h';rw[h] at h';cases h';rfl
 have mrs:∀{k o},dv m k=some o->rsv k=true/\o<nx:=λh=>⟨(hm1 _ (eg h)).1,cX (hm1 _ (eg h)).2⟩
 have pick:∀{k o},dv m k=some o->∃x0 x,go ob o=some x0/\Fx (rlB ob (inv m)) x0=some x:=λh=>Gw hx (eg h)
 let nilL:Nat->Prop:=λo=>E.n o/\∃t sz els g,go ob o=some (.rown t sz els g)
 let Ec:Env:={r:=λl=>match dv m l with|some o=>if nilL o then none else E.r o|none=>none,F:=E.F,G:=E.G,n:=λl=>∃o,dv m l=some o/\E.n o}
 have hEc:∀l p,Ec.r l=some p->∃o,dv m l=some o/\¬nilL o/\E.r o=some p:=by
  intro l p h
  have h:(match dv m l with|some o=>if nilL o then none else E.r o|none=>none)=some p:=h
  split at h
  .rename_i o h1
   split at h
   .cases h
   exact⟨o,h1,by assumption,h⟩
  cases h
 have hEc2:∀{l o p},dv m l=some o->¬nilL o->E.r o=some p->Ec.r l=some p:=by
  intro l o p h1 h2 h3
  show(match dv m l with|some o=>if nilL o then none else E.r o|none=>none)=some p
  rw[h1];simp only[h2,if_false];exact h3
 have hEn:∀{l o},dv m l=some o->(Ec.n l↔E.n o):=λh=>⟨λ⟨o',h1,h2⟩=>by rw[h] at h1;cases h1;exact h2,λh2=>⟨_,h,h2⟩⟩
 have nF:∀{l o b c},dv m l=some o->¬nilL o->E.r o=some (b,c)->¬E.F b:=by
  intro l o b c h1 h2 h3
  obtain⟨x0,x,a1,a2⟩:=pick h1
  have hx0:=hR.obs o x0 a1
  cases x0 with
  |var t cs=>obtain⟨b',c',arr,k1,k2,k3,k4⟩:=hx0;rw[h3] at k1;cases k1;exact k4
  |row t sz els g mm=>
   cases mm with
   |false=>cases a2
   |true=>obtain⟨b',c',arr,k1,k2,k3,k4,k5,k6,k7,k8,_⟩:=hx0;rw[h3] at k1;cases k1;exact k8 rfl
  |rown t sz els g=>
   rcases hx0 with⟨k0,_⟩|⟨_,b',c',arr,k1,k2,k3,k4,k5,k6,k7,k8⟩
   .exact absurd ⟨k0,_,_,_,_,a1⟩ h2
   rw[h3] at k1;cases k1;exact k8
  |abs j z=>cases a2
 have hVI:VIn Ec w:=⟨ok.fb,ok.gf,λl b c h=>by
  obtain⟨o,h1,h2,h3⟩:=hEc l _ h
  exact⟨(ok.rb o b c h3).1,(mrs h1).1,nF h1 h2 h3⟩,λl l' b c c' h h'=>by
  obtain⟨o,h1,h2,h3⟩:=hEc l _ h
  obtain⟨o',h1',h2',h3'⟩:=hEc l' _ h'
  have:=ok.inj _ _ _ _ _ h3 h3'
  subst this
  exact linj _ _ _ h1 h1',λ_ _ h=>h,λ_ h=>h⟩
 have hcB:∀c c' u,rlB ob (inv m) c=some c'->cvC E w c u->cvC Ec w c' u:=by
  intro c c' u h hc
  cases c with
  |w l n=>
   simp only[rlB] at h
   split at h
   .rename_i k _ _ _ _ _ h1 h2;cases h
    obtain⟨b,c,h3,h4⟩:=hc
    exact⟨b,c,hEc2 (of_inv h1) (λ⟨_,_,_,_,_,h⟩=>by rw[h2] at h;cases h) h3,h4⟩
   cases h
  |wn l n=>
   simp only[rlB] at h
   split at h
   .rename_i k _ _ _ _ h1 h2;cases h
    rcases hc with⟨h3,h4⟩|⟨h3,b,c,h4,h5⟩
    .exact .inl ⟨(hEn (of_inv h1)).2 h3,h4⟩
    exact .inr ⟨λh=>h3 ((hEn (of_inv h1)).1 h),b,c,hEc2 (of_inv h1) (λh=>h3 h.1) h4,h5⟩
   cases h
  |p l n=>
   simp only[rlB] at h
   split at h
   .rename_i k _ _ h1 h2;cases h
    obtain⟨b,c,h3,h4⟩:=hc
    exact⟨b,c,hEc2 (of_inv h1) (λ⟨_,_,_,_,_,h⟩=>by rw[h2] at h;cases h) h3,h4⟩
   cases h
  |d g x=>simp only[rlB] at h;cases h;cases g<;>exact hc
  |nil=>simp only[rlB] at h;cases h;exact hc
  |any=>simp only[rlB] at h;cases h;trivial
  |fn f=>simp only[rlB] at h;cases h;exact hc
  |_=>simp only[rlB] at h;cases h
 have hcA:∀c c' u,agC up ob (inv m) c=some c'->cvC E w c u->cvC Ec w c' u:=by
  intro c c' u h hc
  cases c with
  |d g x=>simp only[agC] at h;cases h;exact cF (λ_ _=>rfl) (λb hb=>by cases g<;>cases up<;>first|exact hb|exact ok.gf b hb) x u hc
  |nil=>simp only[agC] at h;cases h;exact⟨none,0,hc,YW _,.inl rfl⟩
  |_=>simp only[agC] at h;exact hcB _ _ _ h hc
 have hX:∀l x,go xs l=some x->cP Ec w l x:=by
  intro l x h
  obtain⟨o,x0,a1,a2,a3⟩:=Kx hx h
  exact Ah a3 hcB (λb c h1 h2=>hEc2 a1 (λ⟨k1,t,sz,els,g,k2⟩=>h1 ⟨k1,t,sz,els,g,by rw[a2] at k2;cases k2;rfl⟩) h2) (hEn a1) (λg b h=>by cases g<;>exact h) (λb c h1 h2 h3=>h3) (hR.obs o x0 a2)
 have hA:=Ed (a:=a) hcA ha t1 (λx t hm=>by have:=hR.op x;rwa [Lk.mem t2 x t hm] at this)
 have hc:=hF.calls Ec w (args.map a.eval).toArray hVI ok.tabs (λk hk l c h=>by
  obtain⟨o,_,_,h3⟩:=hEc l _ h;exact ok.ntab h3 k hk rfl) hX (by simpa using hA)
 have hent:=hF.enters (args.map a.eval).toArray w
 unfold Oper.wp
 have hrun:(execOp a.eval ⟨some d,.call ⟨.value (.func f),args.toArray,tys⟩,ty,ps,af,gd⟩).run P w= .ok (.enter f (args.map a.eval).toArray) w:=by
  simp only[execOp,resolve,Act.eval,Deferred.ofValue,Sem.run_bind,Sem.run_pure,Result.andThen_ok,invoke]
  simpa using hent
 rw[hrun,Oper.upon_enter]
 refine hc.mono ?_
 rintro e w' ⟨v,E',rfl,vo,hv,hY,hNW⟩
 have hsz:=vo.past.size
 let E2:Env:={r:=λl=>match dv (inv (m++nl)) l with|some k=>E'.r k|none=>E.r l,F:=E'.F,G:=E'.G,T:=E.T,Z:=E.Z,n:=λl=>match dv (inv (m++nl)) l with|some k=>E'.n k|none=>E.n l}
 have e2r:∀{k o},dv (m++nl) k=some o->E2.r o=E'.r k:=λh=>by show(match dv (inv (m++nl)) _ with|some k=>E'.r k|none=>E.r _)=_;rw[inv_of' h]
 have e2n:∀{k o},dv (m++nl) k=some o->(E2.n o↔E'.n k):=λh=>by show(match dv (inv (m++nl)) _ with|some k=>E'.n k|none=>E.n _)↔_;rw[inv_of' h]
 have e2r0:∀{o},dv (inv (m++nl)) o=none->E2.r o=E.r o:=λh=>by show(match dv (inv (m++nl)) _ with|some k=>E'.r k|none=>E.r _)=_;rw[h]
 have e2n0:∀{o},dv (inv (m++nl)) o=none->(E2.n o↔E.n o):=λh=>by show(match dv (inv (m++nl)) _ with|some k=>E'.n k|none=>E.n _)↔_;rw[h]
 have e2c:∀l b c,E2.r l=some (b,c)->(∃k,dv (m++nl) k=some l/\E'.r k=some (b,c))\/(dv (inv (m++nl)) l=none/\E.r l=some (b,c)):=by
  intro l b c h
  cases h1:dv (inv (m++nl)) l with
  |some k=>exact .inl ⟨k,of_inv' h1,by rw[<-e2r (of_inv' h1)];exact h⟩
  |none=>exact .inr ⟨rfl,by rw[<-e2r0 h1];exact h⟩
 have oldB:∀{k b c},E'.r k=some (b,c)->w.heap.size<=b\/∃l o c',dv m l=some o/\¬nilL o/\E.r o=some (b,c')/\rsv k=true:=by
  intro k b c h
  rcases(vo.rb k b c h).2 with h|⟨⟨l,c',h⟩,h2⟩
  .exact .inl h
  obtain⟨o,h3,h4,h5⟩:=hEc l _ h;exact .inr ⟨l,o,c',h3,h4,h5,h2⟩
 have none_of:∀{o},(∀k,dv m k≠some o)->o<nx->dv (inv (m++nl)) o=none:=by
  intro o h1 h2
  cases h:dv (inv (m++nl)) o with
  |none=>rfl
  |some k=>
   rcases split (of_inv' h) with h3|h3
   .exact absurd h3 (h1 k)
   have:=(hcu _ _ h3).1;omega
 have hnot:∀{o},dv (inv (m++nl)) o=none->∀k,dv m k≠some o:=λh k h1=>by rw[inv_of' (look_m h1)] at h;cases h
 have hheap:∀k,k<w.heap.size->(∀l o c,dv m l=some o->¬nilL o->E.r o≠some (k,c))->w'.heap[k]?=w.heap[k]?:=λk hk h=>vo.past.block k hk (λ⟨l,c,h1⟩=>by
  obtain⟨o,h2,h3,h4⟩:=hEc l _ h1;exact h l o c h2 h3 h4)
 have hFh:∀b,E.F b->w'.heap[b]?=w.heap[b]?:=λb hb=>hheap b (ok.fb b hb) (λl o c h1 h2 h3=>nF h1 h2 h3 hb)
 have hHh:∀g b,E.H g b->w'.heap[b]?=w.heap[b]?:=λg b hb=>hFh b (by cases g;exact hb;exact ok.gf b hb)
 have hTh:∀l b,E.T l b->w'.heap[b]?=w.heap[b]?:=λl b hb=>hheap b (ok.sf.tb l b hb).1.1 (λ_ o c _ _ h=>(ok.sf.tb l b hb).2.2.1 o c h)
 have hZh:∀b,cx.Z b->w'.heap[b]?=w.heap[b]?:=λb hb=>hheap b (ok.sf.zc b hb).1.2.1 (λ_ o c _ _ h=>(ok.sf.zc b hb).2.2.1 o c h)
 have okE:c8 cx E2 w':=by
  refine⟨vo.fb,vo.gf,λb h=>?_,λl b c h=>?_,λl l' b c c' h h'=>?_,by rw[vo.past.os];exact ok.os,by rw[vo.past.tape];exact ok.tape,by rw[vo.past.output];exact ok.output,ZY ok.size hsz,λb h hW=>?_,λl x hv h=>?_,λb h=>?_,λb h h'=>?_,⟨λl b h=>?_,ok.sf.tt,λb h=>?_,λb h=>?_,ok.sf.ze⟩⟩
  .rcases vo.g0 b h with h|h
   .exact .inl (ZY ok.size h)
   exact ok.gn b h
  .rcases e2c l b c h with⟨k,h1,h2⟩|⟨h1,h2⟩
   .refine⟨(vo.rb k b c h2).1,?_⟩
    rcases oldB h2 with h3|⟨l',o',c',h3,h4,h5,h6⟩
    .exact .inl (ZY ok.size h3)
    rcases split h1 with h7|h7
    .rcases(ok.rb o' b c' h5).2 with h8|⟨h8,h9⟩
     .exact .inl h8
     refine .inr ⟨h8,?_⟩
     cases hp:rsp k with
     |true=>
      have h10:=vo.pin k _ hp h2
      obtain⟨o2,h11,_,h13⟩:=hEc k _ h10
      rw[h7] at h11;cases h11
      have:=ok.inj _ _ _ _ _ h13 h5
      rw[this];exact h9
     |false=>
      rcases hu with hu|hu
      .rcases hu _ (eg h7) with h10|h10
       .simp only at h10;rw[hp] at h10;cases h10
       exact h10
      rcases hu _ (eg h3) with h10|h10
      .have h11:rsp l'=true:=h10
       have h12:=inv_of h3
       exfalso
       have hy2:(go ys l').isSome=true:=(hm2 _ (eg h3)).2.2
       have hv2:Sm ys l'=true:=((hm2 _ (eg h3)).2.1).resolve_left (by simp[h11])
       unfold Sm at hv2
       split at hv2
       .rename_i t cs hg
        obtain⟨b1,c1,arr,q1,_⟩:=hY _ _ hg
        have q2:=vo.pin l' _ h11 q1
        obtain⟨o2,q3,_,q4⟩:=hEc l' _ q2
        rw[h3] at q3;cases q3
        rw[h5] at q4;cases q4
        have:=vo.inj _ _ _ _ _ q1 h2
        subst this
        rw[h11] at hp;cases hp
       cases hv2
      simp only at h10;rw[h9] at h10;cases h10
    exfalso
    have:=(hcu _ _ h7).2.2.2
    rw[this] at h6;cases h6
   have:=ok.rb l b c h2;exact⟨Zg this.1 hsz,this.2⟩
  .rcases e2c l b c h with⟨k,h1,h2⟩|⟨h1,h2⟩<;>rcases e2c l' b c' h' with⟨k',h1',h2'⟩|⟨h1',h2'⟩
   .have:=vo.inj _ _ _ _ _ h2 h2'
    subst this
    rw[h1] at h1';cases h1';rfl
   .exfalso
    rcases oldB h2 with h3|⟨l2,o2,c2,h3,h4,h5,_⟩
    .have:=(ok.rb _ _ _ h2').1;omega
    have:=ok.inj _ _ _ _ _ h5 h2'
    subst this
    exact hnot h1' _ h3
   .exfalso
    rcases oldB h2' with h3|⟨l2,o2,c2,h3,h4,h5,_⟩
    .have:=(ok.rb _ _ _ h2).1;omega
    have:=ok.inj _ _ _ _ _ h5 h2
    subst this
    exact hnot h1 _ h3
   exact ok.inj _ _ _ _ _ h2 h2'
  .rw[hheap b (Zg h ok.size) (λl o c h1 h2 h3=>by
    rcases(ok.rb o b c h3).2 with h4|h4
    .omega
    exact hW h4.1)]
   exact ok.block b h hW
  .obtain⟨b,c⟩:=x
   rcases e2c l b c h with⟨k,h1,h2⟩|⟨_,h2⟩
   .rcases split h1 with h7|h7
    .have hk:rsp k=true:=((hm2 _ (eg h7)).1).resolve_left (by simp[hv])
     obtain⟨o2,q3,_,q4⟩:=hEc k _ (vo.pin k _ hk h2)
     rw[h7] at q3;cases q3
     exact ok.pin l _ hv q4
    have:=(hcu _ _ h7).2.2.1
    have h9:=In hv
    rw[this] at h9;cases h9
   exact ok.pin l _ hv h2
  .rcases vo.f0 b h with h|h
   .exact ok.ff b h
   exact .inr (ZY ok.size h.1)
  .rcases vo.f0 b h with h|h
   .exact(ok.gc b h h').of_eq (hFh b h)
   exact h.2
  .obtain⟨k1,k2,k3,k4⟩:=ok.sf.tb l b h
   refine⟨⟨by omega,k1.2⟩,λhf=>?_,λo c ho=>?_,k4.of_eq (hTh l b h)⟩
   .rcases vo.f0 b hf with hf|hf
    .exact k2 hf
    omega
   rcases e2c o b c ho with⟨k,_,h2⟩|⟨_,h2⟩
   .rcases oldB h2 with h3|⟨l2,o2,c2,h3,h4,h5,_⟩
    .omega
    exact k3 _ _ h5
   exact k3 _ _ h2
  .obtain⟨k1,k2,k3,k4⟩:=ok.sf.zc b h
   refine⟨⟨k1.1,by omega,k1.2.2⟩,λhf=>?_,λo c ho=>?_,k4.of_eq (hZh b h)⟩
   .rcases vo.f0 b hf with hf|hf
    .exact k2 hf
    omega
   rcases e2c o b c ho with⟨k,_,h2⟩|⟨_,h2⟩
   .rcases oldB h2 with h3|⟨l2,o2,c2,h3,h4,h5,_⟩
    .omega
    exact k3 _ _ h5
   exact k3 _ _ h2
  exact(ok.sf.zs b h).trans (.of_eq (hZh b h))
 have hHm:∀g b,E.H g b->E2.H g b:=λg b h=>by cases g;exact vo.F b h;exact vo.G b h
 have hkv:∀c c' u,c.lt nx=true->kvC (inv m) c=some c'->cvC E w c u->cvC E2 w' c' u:=by
  intro c c' u hl h hc
  have hnone:∀{l},dv (inv m) l=none->l<nx->dv (inv (m++nl)) l=none:=λh1 h2=>none_of (λk h3=>by rw[inv_of h3] at h1;cases h1) h2
  cases c with
  |d g x=>simp only[kvC] at h;cases h;exact cF (hHh g) (hHm g) x u hc
  |w l n=>
   simp only[kvC] at h
   split at h
   .cases h;trivial
   rename_i h1;cases h
   obtain⟨b,c,h3,h4⟩:=hc
   exact⟨b,c,by rw[e2r0 (hnone h1 (cX hl))];exact h3,h4⟩
  |wn l n=>
   simp only[kvC] at h
   split at h
   .cases h;trivial
   rename_i h1;cases h
   have h2:=hnone h1 (cX hl)
   rcases hc with⟨h3,h4⟩|⟨h3,b,c,h4,h5⟩
   .exact .inl ⟨(e2n0 h2).2 h3,h4⟩
   exact .inr ⟨λh=>h3 ((e2n0 h2).1 h),b,c,by rw[e2r0 h2];exact h4,h5⟩
  |s l a1 a2 a3=>
   simp only[kvC] at h
   split at h
   .cases h;trivial
   rename_i h1;cases h
   obtain⟨A,c,b,k,h3,h4⟩:=hc
   exact⟨A,c,b,k,by rw[e2r0 (hnone h1 (cX hl))];exact h3,h4⟩
  |e l a1 a2 a3=>
   simp only[kvC] at h
   split at h
   .cases h;trivial
   rename_i h1;cases h
   obtain⟨b,c,h3,h4⟩:=hc
   exact⟨b,c,by rw[e2r0 (hnone h1 (cX hl))];exact h3,h4⟩
  |p l j=>
   simp only[kvC] at h
   split at h
   .rename_i k h1
    split at h
    .rename_i hp
     cases h
     obtain⟨b,c,h3,h4⟩:=hc
     have h5:=of_inv h1
     have hv2:Sm ys k=true:=((hm2 _ (eg h5)).2.1).resolve_left (by simp[hp])
     unfold Sm at hv2
     split at hv2
     .rename_i t cs hg
      obtain⟨b1,c1,arr,q1,_⟩:=hY _ _ hg
      obtain⟨o2,q3,_,q4⟩:=hEc k _ (vo.pin k _ hp q1)
      rw[h5] at q3;cases q3
      rw[h3] at q4;cases q4
      exact⟨b,c,by rw[e2r (look_m h5)];exact q1,h4⟩
     cases hv2
    cases h;trivial
   rename_i h1;cases h
   obtain⟨b,c,h3,h4⟩:=hc
   exact⟨b,c,by rw[e2r0 (hnone h1 (cX hl))];exact h3,h4⟩
  |q g y j=>
   simp only[kvC] at h;cases h
   obtain⟨b,k,h1,h2,h3⟩:=hc
   exact⟨b,k,h1,hHm g b h2,rdL_mono (hHh g) (hHm g) y b k h2 h3⟩
  |fn f=>simp only[kvC] at h;cases h;exact hc
  |nil=>simp only[kvC] at h;cases h;exact hc
  |any=>simp only[kvC] at h;cases h;trivial
  |r l x=>simp only[kvC] at h;cases h;exact cF (λb hb=>hTh l b hb) (λb hb=>hb) x u hc
  |z x=>simp only[kvC] at h;cases h;exact ul (λb hb=>.of_eq (hZh b (ok.sf.ze b hb))) (λb hb=>hb) x u hc
  |zq x j=>
   simp only[kvC] at h;cases h
   obtain⟨b,k,h1,h2,h3⟩:=hc
   exact⟨b,k,h1,h2,rsL_mono (λb hb=>.of_eq (hZh b (ok.sf.ze b hb))) (λb hb=>hb) x b k h2 h3⟩
 have hrl:∀c c' u,rlC (m++nl) c=some c'->cvC E' w' c u->cvC E2 w' c' u:=by
  intro c c' u h hc
  cases c with
  |w l n=>
   simp only[rlC] at h
   split at h
   .rename_i k h1;cases h
    obtain⟨b,c,h3,h4⟩:=hc
    exact⟨b,c,by rw[e2r h1];exact h3,h4⟩
   cases h
  |wn l n=>
   simp only[rlC] at h
   split at h
   .rename_i k h1;cases h
    rcases hc with⟨h3,h4⟩|⟨h3,b,c,h4,h5⟩
    .exact .inl ⟨(e2n h1).2 h3,h4⟩
    exact .inr ⟨λh=>h3 ((e2n h1).1 h),b,c,by rw[e2r h1];exact h4,h5⟩
   cases h
  |p l n=>
   simp only[rlC] at h
   split at h
   .rename_i k h1;cases h
    obtain⟨b,c,h3,h4⟩:=hc
    exact⟨b,c,by rw[e2r h1];exact h3,h4⟩
   cases h
  |d g x=>simp only[rlC] at h;cases h;cases g<;>exact hc
  |nil=>simp only[rlC] at h;cases h;exact hc
  |any=>simp only[rlC] at h;cases h;trivial
  |fn f=>simp only[rlC] at h;cases h;exact hc
  |_=>simp only[rlC] at h;cases h
 have hrel:∀{k o:Nat} {y y':Ob},dv (m++nl) k=some o->Fx (rlC (m++nl)) y=some y'->cP E' w' k y->cP E2 w' o y':=λh1 h2 h3=>
  Ah h2 hrl (λb c _ h=>by rw[e2r h1];exact h) (e2n h1) (λg b h=>by cases g<;>exact h) (λb c _ _ h=>h) h3
 refine⟨E2,okE,λl x h=>?_,λl y hl=>?_,λk=>?_,hR.dfr,by simpa [Act.put] using hR.size,λl b h=>Zg (hR.td l b h) hnn⟩
 .obtain⟨b,c⟩:=x
  rcases e2c l b c h with⟨k,h1,_⟩|⟨_,h2⟩
  .rcases split h1 with h3|h3
   .exact Zg (mrs h3).2 hnn
   exact(hcu _ _ h3).2.1
  exact Zg (hR.dom l _ h2) hnn
 .rcases Sg hl with h|⟨_,h⟩
  .obtain⟨k,y0,h1,h2,h3⟩:=Eu linj' hw h
   exact hrel h1 h3 (hNW _ _ h2)
  rcases Sg h with h|⟨h0,h⟩
  .obtain⟨k,y0,h1,h2,h3⟩:=Eu linj' hy h
   exact hrel h1 h3 (hY _ _ h2)
  .
    have hnm:∀k,dv m k≠some l:=λk h1=>by
     have h2:=(hm2 _ (eg h1)).2.2
     cases h3:go ys k with
     |none=>rw[h3] at h2;cases h2
     |some y0=>
      obtain⟨o,h4,h5⟩:=Ev hy h3
      rw[look_m h1] at h4;cases h4
      exact h5 h0
    have hno:∀b c,E.r l=some (b,c)->w'.heap[b]?=w.heap[b]?:=λb c hr=>hheap b (ok.rb l b c hr).1 (λl' o' c' h1 _ h3=>by
     have:=ok.inj _ _ _ _ _ hr h3
     subst this
     exact hnm _ h1)
    have hFn:∀b c,E.r l=some (b,c)->¬E.F b->¬E2.F b:=λb c hr hn hf=>(vo.f0 b hf).elim hn (λh=>by have:=(ok.rb l b c hr).1;omega)
    rcases va hb h with⟨t,cs,cs',g1,g2,rfl⟩|⟨x0,g1,g2,g3⟩
    .obtain⟨hln,hxl⟩:=w6 hol g1
     have e1:=e2r0 (none_of hnm hln)
     obtain⟨b,c,arr,k1,k2,k3,k4⟩:=hR.obs l _ g1
     refine⟨b,c,arr,by rw[e1];exact k1,(hno b c k1).trans k2,?_,hFn b c k1 k4⟩
     have key:∀(cs cs':List C) (us:List Value),cs.all (C.lt nx)=true->pC (kvC (inv m)) cs=some cs'->CV E w cs us->CV E2 w' cs' us:=by
      intro cs
      induction cs with
      |nil=>intro cs' us _ h hc;simp[pC] at h;subst h;cases us with
       |nil=>trivial
       |cons _ _=>exact hc.elim
      |cons c cs ih=>
       intro cs' us hl h hc
       simp only[Zt,v0] at hl
       cases us with
       |nil=>exact hc.elim
       |cons u us=>
        simp only[pC] at h
        split at h
        .rename_i h1 h2;simp at h;subst h;exact⟨hkv _ _ _ hl.1 h1 hc.1,ih _ _ hl.2 h2 hc.2⟩
        cases h
     exact key _ _ _ hxl g2 k3
    cases g3
    obtain⟨hln,hxl⟩:=w6 hol g1
    have e1:=e2r0 (none_of hnm hln)
    have e3:=e2n0 (none_of hnm hln)
    have hx0:=hR.obs l _ g1
    cases y with
    |var t cs=>exact absurd rfl (g2 t cs)
    |row t sz els g mm=>
     obtain⟨b,c,arr,k1,k2,k3,k4,k5,k6,k7,k8,k9⟩:=hx0
     exact⟨b,c,arr,by rw[e1];exact k1,(hno b c k1).trans k2,k3,k4,k5,k6,ct (hHh g) (hHm g) (hno b c k1) _ _ k7,λhm=>hFn b c k1 (k8 hm),λhm=>⟨hHm false b (k9 hm).1,λhg=>hHm true b ((k9 hm).2 hg)⟩⟩
    |rown t sz els g=>
     rcases hx0 with⟨k1,k2⟩|⟨k0,b,c,arr,k1,k2,k3,k4,k5,k6,k7,k8⟩
     .exact .inl ⟨e3.2 k1,k2⟩
     exact .inr ⟨λh=>k0 (e3.1 h),b,c,arr,by rw[e1];exact k1,(hno b c k1).trans k2,k3,k4,k5,k6,ct (hHh g) (hHm g) (hno b c k1) _ _ k7,hFn b c k1 k8⟩
    |abs j z=>
     rcases hx0 with⟨k1,k2⟩|⟨k0,b,c,k1,k2,k3⟩
     .exact .inl ⟨e3.2 k1,k2⟩
     exact .inr ⟨λh=>k0 (e3.1 h),b,c,by rw[e1];exact k1,z.st _ _ _ _ _ _ k2 (λk hk=>hk) (hno b c k1) (λk hk=>hTh j k hk),hFn b c k1 k3⟩
 rw[ij (by rw[hR.size];exact cX hN)]
 by_cases hdk:d=k
 .subst hdk;rw[d9,if_pos rfl];exact zY hrl ho hv
 rw[da _ _ hdk,if_neg hdk]
 rw[<-Of hsl] at hs
 refine zW (λc c' u h hc=>?_) hs (hR.sl k)
 unfold ltF at h
 cases hl:c.lt nx with
 |true=>rw[hl] at h;exact hkv c c' u hl h hc
 |false=>rw[hl] at h;cases h;trivial
theorem cwv {P:Program} {N:Nat} {d:Tmp} {ty:TypeId} {ps:String} {af:Array Edge} {gd:Option (Nat×Bool)} {f:FuncId} {args:List Operand} {tys:Array TypeId} {sl sl':List (Nat×T)} {ob ob' ob1 ob2:List (Nat×Ob)} {nx:Nat} {ts ts':List T} {xs ys ys' nw nw':List (Nat×Ob)} {out out':T} (m nl:List (Nat×Nat)) (n:Nat)
 (hF:FnV P f xs ts' ys out nw) (ht:Bj sl args=some ts:=by exact rfl) (ha:vM (agC false ob (inv m)) ts=some ts':=by exact rfl) (hx:Ab (inv m) ob m=some xs:=by exact rfl) (hm:mOK m nl nx n ys=true:=by exact rfl) (hs:Bh (kvC (inv m)) sl=some sl':=by exact rfl) (hb:yQ (kvC (inv m)) (λ_ x=>some x) ob=some ob':=by exact rfl)
 (hy:vN (m++nl) ys=some ys':=by exact rfl) (hw:vN (m++nl) nw=some nw':=by exact rfl) (ho:zX (rlC (m++nl)) out=some out':=by exact rfl) (hsl:FE nx sl=true:=by exact rfl) (hol:BR nx ob=true:=by exact rfl) (hN:nlt d N=true:=by exact rfl) (h1:apO ys' ob'=some ob1:=by exact rfl) (h2:apO nw' ob1=some ob2:=by exact rfl):
 AWO P N ⟨some d,.call ⟨.value (.func f),args.toArray,tys⟩,ty,ps,af,gd⟩ ⟨sl,ob,nx⟩ ⟨(d,out')::sl',ob2,n⟩:=by
 rw[vZ h2,vZ h1]
 exact Oz hF ht ha hx hm hs hb hy hw ho hsl hol hN
theorem cwu {P:Program} {N:Nat} {d:Tmp} {ty:TypeId} {ps:String} {af:Array Edge} {gd:Option (Nat×Bool)} {f:FuncId} {args:List Operand} {tys:Array TypeId} {sl sl':List (Nat×T)} {ob ob' ob1 ob2:List (Nat×Ob)} {nx:Nat} {ts ts':List T} {xs ys ys' nw nw':List (Nat×Ob)} {out out':T} (m nl:List (Nat×Nat)) (n:Nat)
 (hF:FnV P f xs ts' ys out nw) (ht:Bj sl args=some ts:=by exact rfl) (ha:vM (agC true ob (inv m)) ts=some ts':=by exact rfl) (hx:Ab (inv m) ob m=some xs:=by exact rfl) (hm:mOK m nl nx n ys=true:=by exact rfl) (hs:Bh (kvC (inv m)) sl=some sl':=by exact rfl) (hb:yQ (kvC (inv m)) (λ_ x=>some x) ob=some ob':=by exact rfl)
 (hy:vN (m++nl) ys=some ys':=by exact rfl) (hw:vN (m++nl) nw=some nw':=by exact rfl) (ho:zX (rlC (m++nl)) out=some out':=by exact rfl) (hsl:FE nx sl=true:=by exact rfl) (hol:BR nx ob=true:=by exact rfl) (hN:nlt d N=true:=by exact rfl) (h1:apO ys' ob'=some ob1:=by exact rfl) (h2:apO nw' ob1=some ob2:=by exact rfl):
 AWO P N ⟨some d,.call ⟨.value (.func f),args.toArray,tys⟩,ty,ps,af,gd⟩ ⟨sl,ob,nx⟩ ⟨(d,out')::sl',ob2,n⟩:=by
 rw[vZ h2,vZ h1]
 exact Oz hF ht ha hx hm hs hb hy hw ho hsl hol hN
end Go.AM
