/- A part. -/
import Derived.Test.YtgbcdgihmgapeaaGreatE1
import Derived.Laws.StructEq
import Derived.Laws.BytesString
set_option linter.unusedVariables false
set_option linter.unusedSimpArgs false
set_option maxHeartbeats 4000000
open Option renaming some->ς,none->ξ
open Bool renaming true->ζ,false->η
open True renaming intro->θ
open Nat renaming beq->d0,eq_of_beq_eq_true->Zo,lt_of_lt_of_le->Zy,zero_add->Zs,le_of_ble_eq_true->ZK,lt_or_ge->ZF,le_refl->Zu,le_trans->Zz,zero_le->ZA,min_eq_left->aag,lt_trichotomy->aav,not_lt->aak,ble->Zw,add_zero->ZX
open Bool renaming false_ne_true->aaa,and_eq_true->hV,or_eq_true->ZC,eq_false_iff->aai,or_eq_false_iff->ZB,not_eq_true'->ZD,not_true->aam
open List renaming getElem?_eq_getElem->Zl,mem_of_getElem?->Zk,getElem?_eq_some_iff->v0,pairwise_iff_getElem->ZJ,all_eq_true->Zq,mem_append->Zn,mem_cons->Zp,range->Zm,take_succ_cons->ZT,getElem?_append_right->Zr,cons_append->ZN,length_cons->ZE,map_cons->aac,all_cons->ZR,getElem?_append_left->Zt,eq_nil_of_length_eq_zero->ZS,mem_of_mem_take->ZL,getElem?_of_mem->Zx,getD_eq_getElem?_getD->aay,map_append->aad,getElem?_take->ZQ,length_eq_zero_iff->aap,filter_cons_of_pos->aar,filter_cons_of_neg->aas,nodup_append->aaj,findIdx?_eq_some_iff_getElem->Z0,any_eq_true->ZG,map_nil->aae,mem_map->Z9,flatten_append->aah,drop_drop->aan,length_append->ZM,exists_mem_of_ne_nil->aaz,findIdx?_eq_none_iff->Z3,length_take->aaf,map_toArray->aal,length_map->ZU,nodup_cons->Z2,filter_eq_nil_iff->aaA,map_take->aat,drop_succ_cons->aaD,getElem?_drop->ZZ,mapM_toArray->aau,filter_congr->aaB,nodup_range->aaC,nil_append->aab,take_zero->aaE,drop_zero->aaw,map_drop->aax
open Array renaming replicate->Zv,getElem?_eq_getElem->ZO,getElem?_append_left->aao,ext'->aaq,toArray_toList->ZY
namespace Go.AM
open Go.RowKit
variable{P:Program}{t t' ty:TypeId}{k n b e sz nx N nx' j l i p q:Nat}{x y:Go.AM.Ob}{r:Int}{f:FuncId}{s m st st2:Go.AM.St}{ss:List Go.AM.Sh}{E E':Go.AM.Env}{w w':World}{u:Value}{cs:List Go.AM.C}{α:Type}{els:Go.AM.Lad}{ys ob' nob:Go.AM.Laa}{g gy g':Bool}{sl sl':Go.AM.Lab}{a:Act}{res:List Go.AM.RV}{rs:List ResultVar}{args:List Operand}{ps:String}{af:Array Edge}{gd:Option (Nat×Bool)}{tys:Array TypeId}{ts ts':List Go.AM.T}{out out':Go.AM.T}{listed:Array Bool}
def toV:D->Value
 | .i k n=>.int k n
 | .b b=>.bool b
 | .str s=>.string s
 | .l _=>.slice ξ 0 0
 | .k _ _ _=>.slice ξ 0 0
def UT:D->D->Bool
 | .i _ a,.i _ b=>eqB a b
 | .b a,.b b=>a==b
 | .str a,.str b=>strB a b
 |_,_=>η
def tN:List D->List D->Bool
 |x::xs,y::ys=>UT x y&&tN xs ys
 |_,_=>ζ
def shB:List Sh->List D->Bool
 |[],[]=>ζ
 | .i k::ss,.i k' _::xs=>decide (k=k')&&shB ss xs
 | .b::ss,.b _::xs=>shB ss xs
 | .str::ss,.str _::xs=>shB ss xs
 |_,_=>η
theorem pz:∀{ss:List Sh} {xs:List D},shB ss xs=ζ->xs.length=ss.length
 |[],[],_=>rfl
 | .i k::ss,.i k' _::xs,h=>by simp[shB] at h;simp[pz h.2]
 | .b::ss,.b _::xs,h=>by simp[shB] at h;simp[pz h]
 | .str::ss,.str _::xs,h=>by simp[shB] at h;simp[pz h]
 |[],_::_,h=>by simp[shB] at h
 | .i _::_,[],h=>by simp[shB] at h
 | .i _::_,.b _::_,h=>by simp[shB] at h
 | .i _::_,.str _::_,h=>by simp[shB] at h
 | .i _::_,.l _::_,h=>by simp[shB] at h
 | .i _::_,.k _ _ _::_,h=>by simp[shB] at h
 | .b::_,[],h=>by simp[shB] at h
 | .b::_,.i _ _::_,h=>by simp[shB] at h
 | .b::_,.str _::_,h=>by simp[shB] at h
 | .b::_,.l _::_,h=>by simp[shB] at h
 | .b::_,.k _ _ _::_,h=>by simp[shB] at h
 | .str::_,[],h=>by simp[shB] at h
 | .str::_,.i _ _::_,h=>by simp[shB] at h
 | .str::_,.b _::_,h=>by simp[shB] at h
 | .str::_,.l _::_,h=>by simp[shB] at h
 | .str::_,.k _ _ _::_,h=>by simp[shB] at h
 | .l _::_,[],h=>by simp[shB] at h
 | .l _::_,_::_,h=>by simp[shB] at h
theorem ub:∀{s1 s2:List Sh} {xs:List D},shB (s1++s2) xs=ζ->shB s1 (xs.take s1.length)=ζ/\shB s2 (xs.drop s1.length)=ζ
 |[],s2,xs,h=>by simpa [shB] using h
 | .i k::s1,s2,.i k' n::xs,h=>by
  simp only[ZN,shB,hV] at h
  obtain⟨h1,h2⟩:=ub h.2
  exact⟨by simp only[ZE,ZT,shB,hV];simp_all,by simp_all⟩
 | .b::s1,s2,.b n::xs,h=>by
  simp only[ZN,shB] at h
  obtain⟨h1,h2⟩:=ub h
  exact⟨by simp only[ZE,ZT,shB];exact h1,by simp_all⟩
 | .str::s1,s2,.str n::xs,h=>by
  simp only[ZN,shB] at h
  obtain⟨h1,h2⟩:=ub h
  exact⟨by simp only[ZE,ZT,shB];exact h1,by simp_all⟩
 | .i _::_,_,[],h=>by simp[shB] at h
 | .i _::_,_,.b _::_,h=>by simp[shB] at h
 | .i _::_,_,.str _::_,h=>by simp[shB] at h
 | .i _::_,_,.l _::_,h=>by simp[shB] at h
 | .i _::_,_,.k _ _ _::_,h=>by simp[shB] at h
 | .b::_,_,[],h=>by simp[shB] at h
 | .b::_,_,.i _ _::_,h=>by simp[shB] at h
 | .b::_,_,.str _::_,h=>by simp[shB] at h
 | .b::_,_,.l _::_,h=>by simp[shB] at h
 | .b::_,_,.k _ _ _::_,h=>by simp[shB] at h
 | .str::_,_,[],h=>by simp[shB] at h
 | .str::_,_,.i _ _::_,h=>by simp[shB] at h
 | .str::_,_,.b _::_,h=>by simp[shB] at h
 | .str::_,_,.l _::_,h=>by simp[shB] at h
 | .str::_,_,.k _ _ _::_,h=>by simp[shB] at h
 | .l _::_,_,[],h=>by simp[shB] at h
 | .l _::_,_,_::_,h=>by simp[shB] at h
theorem BE:∀(n:Nat) (xs ys:List D),xs.length=ys.length->tN xs ys=(tN (xs.take n) (ys.take n)&&tN (xs.drop n) (ys.drop n))
 |0,xs,ys,_=>by simp[tN]
 |n+1,[],[],_=>by simp[tN]
 |n+1,x::xs,y::ys,h=>by
  simp only[ZT,aaD,tN]
  rw[BE n xs ys (by simpa using h),Bool.and_assoc]
 |n+1,[],_::_,h=>by simp at h
 |n+1,_::_,[],h=>by simp at h
def sP(xs:List D):Array Value:=(xs.map toV).toArray
def EqS(P:Program)(t:TypeId)(s:Sh):Prop:=∀(d:Nat) (w:World) (x y:D),shB [s] [x]=ζ->shB [s] [y]=ζ->(Op.equalIn (d+1) t (toV x) (toV y)).run P w= .ok (UT x y) w
def EqA(P:Program)(k:Nat)(t:TypeId)(ss:List Sh):Prop:=∀(d:Nat) (w:World) (xs ys:List D),k<=d->shB ss xs=ζ->shB ss ys=ζ->(Op.equalIn d t (.agg (sP xs)) (.agg (sP ys))).run P w= .ok (tN xs ys) w
def EqF(P:Program)(k:Nat)(o:Nat)(fs:List Field)(ss:List Sh):Prop:=∀(d:Nat) (w:World) (X Y:List D),k<=d->shB ss (X.drop o)=ζ->shB ss (Y.drop o)=ζ->(Op.eqFields d (sP X) (sP Y) fs).run P w= .ok (tN (X.drop o) (Y.drop o)) w
theorem dS{k:IntKind}(h:P.underlying t=ς (.int k)):EqS P t (.i k):=by
 intro d w x y hx hy
 cases x<;>simp[shB] at hx
 cases y<;>simp[shB] at hy
 subst hx;subst hy
 rw[toV,toV,run_equalIn_int w d t _ k _ _ h]
 simp[UT,eqB,Lz]
theorem nJ{o:Nat}:EqF P k o [] []:=by
 intro d w X Y hd hx hy
 have h1:=pz hx
 have h2:=pz hy
 rw[aap.1 h1,aap.1 h2]
 rfl
theorem TH{X:List D}{o:Nat}{x:D}{r:List D}(h:X.drop o=x::r):(sP X)[o]?=ς (toV x):=by
 have:X[o]?=ς x:=by
  have:=ZZ (xs:=X) (i:=o) (j:=0)
  rw[h] at this
  simpa using this.symm
 simp[sP,this]
theorem ge{o:Nat}{f:Field}{fs:List Field}{s:Sh}(ho:f.offset=o)(hn:f.name≠ "_")(hs:g8 P f.type)(he:EqS P f.type s)(h:EqF P (k+1) (o+1) fs ss):EqF P (k+1) o (f::fs) (s::ss):=by
 intro d w X Y hd hx hy
 obtain⟨d,rfl⟩:∃d',d=d'+1:=⟨d-1,by omega⟩
 have l1:=pz hx
 have l2:=pz hy
 cases hX:X.drop o with
 |nil=>simp_all
 |cons x X'=>
  cases hY:Y.drop o with
  |nil=>simp_all
  |cons y Y'=>
   rw[hX] at hx;rw[hY] at hy
   have a1:=ub (s1:=[s]) (s2:=ss) hx
   have a2:=ub (s1:=[s]) (s2:=ss) hy
   simp only[ZE,List.length_nil,Zs,ZT,aaE,aaD,aaw] at a1 a2
   have e1:X.drop (o+1)=X':=by rw[<-aan,hX];rfl
   have e2:Y.drop (o+1)=Y':=by rw[<-aan,hY];rfl
   have ih:=h (d+1) w X Y hd (by simp_all) (by simp_all)
   simp only[Op.eqFields,hn,ne_eq,not_false_eq_true,if_true,Sem.run_bind,part,hs.h,Result.andThen_ok,ho,TH hX,TH hY,Sem.run_pure,Bool.false_eq_true,if_false,he d w x y a1.1 a2.1]
   rw[tN,<-e1,<-e2]
   cases hq:UT x y
   .simp
   simp_all
theorem Wh{X:List D}{o:Nat}:(sP X).extract o (o+n)=sP ((X.drop o).take n):=by
 apply aaq
 simp[sP,aax,aat,List.extract_eq_take_drop]
theorem QE{k' o:Nat}{f:Field}{fs:List Field}{s1:List Sh}(ho:f.offset=o)(hn:f.name≠ "_")(hs:fm P f.type n)(hl:s1.length=n)(hk:k'<=k)(he:EqA P k' f.type s1)(h:EqF P k (o+n) fs ss):EqF P k o (f::fs) (s1++ss):=by
 intro d w X Y hd hx hy
 have l1:=pz hx
 have l2:=pz hy
 have a1:=ub hx
 have a2:=ub hy
 rw[hl] at a1 a2
 have ih:=h d w X Y hd (by simp_all) (by simp_all)
 obtain⟨i,hi,hin⟩:=hs.n
 simp only[Op.eqFields,hn,ne_eq,not_false_eq_true,if_true,Sem.run_bind,part,hs.h,Result.andThen_ok,ho,d7 hi,hin,Wh,Sem.run_pure,he d w _ _ oaa a1.1 a2.1]
 rw[BE n (X.drop o) (Y.drop o) oaa,aan,aan]
 cases hq:tN ((X.drop o).take n) ((Y.drop o).take n)
 .simp
 simp_all
theorem hP{fs:Array Field}(hu:P.underlying t=ς (.struct fs))(hp:P.stoodInHeld t=η)(h:EqF P k 0 fs.toList ss):EqA P (k+1) t ss:=by
 intro d w xs ys hd hx hy
 obtain⟨d,rfl⟩:∃d',d=d'+1:=⟨d-1,by omega⟩
 have hf:P.fieldsOf t=fs:=by simp[Program.fieldsOf,hu]
 rw[run_equalIn_struct w d t _ _ (by simp_all) hp,hf]
 have:=h d w xs ys oaa (by simp_all) (by simp_all)
 simp_all
class wX(P:Program)(t:TypeId)(ss:outParam (List Sh)):Prop where
 h:∃k,k<=10000/\EqA P k t ss
 g:P.eqGuardType P.depth t=η
def M5:C->Option D
 | .d _ (.i k n)=>ς (.i k n)
 | .d _ (.b b)=>ς (.b b)
 | .d _ (.str s)=>ς (.str s)
 |_=>ξ
def oN:List C->Option (List D)
 |[]=>ς []
 |c::cs=>match M5 c,oN cs with
  |some x,ς xs=>ς (x::xs)
  |_,_=>ξ
theorem SV{c:C}{x:D}(h:M5 c=ς x)(hc:cvC E w c u):u=toV x:=by
 cases c with
 |d g y=>cases y<;>simp[M5] at h<;>subst h<;>simpa [rdD,toV] using p4 hc
 |_=>simp[M5] at h
theorem tk{E:Env}{w:World}:∀{cs:List C} {xs:List D} {us:Lae},oN cs=ς xs->CV E w cs us->us=xs.map toV
 |[],xs,[],h,_=>by simp[oN] at h;subst h;rfl
 |[],_,_::_,_,hc=>hc.elim
 |c::cs,xs,[],h,hc=>hc.elim
 |c::cs,xs,u::us,h,hc=>by
  simp only[oN] at h
  split at h
  .rename_i x xs' h1 h2
   simp at h;subst h
   rw[aac,SV h1 hc.1,tk h2 hc.2]
  cases h
section
variable{P:Program}{N:Nat}{d:Tmp}{ty:TypeId}{ps:String}{af:Array Edge}{gd:Option (Nat×Bool)}{x y z:Operand}{sl:Lab}{ob:Laa}{nx:Nat}
theorem MT[h:wX P t ss]{as bs:List D}(h1:shB ss as=ζ)(h2:shB ss bs=ζ)(w:World)(o:BinOp)(ho:o= .eql\/o= .neq)(x y:Operand):
 ((do eqGuard o t x y (.agg (sP as)) (.agg (sP bs));binOp o t (.agg (sP as)) (.agg (sP bs))):Sem Value).run P w= .ok (.bool (if o= .eql then tN as bs else !tN as bs)) w:=by
 obtain⟨k,hk,he⟩:=h.h
 have:=he 10000 w as bs hk h1 h2
 rcases ho with rfl|rfl
 .simp[Sem.run_bind,run_eqGuard_agg w _ t x y _ _ h.g,run_eql_struct,this]
 simp[Sem.run_bind,run_eqGuard_agg w _ t x y _ _ h.g,run_neq_struct,this]
theorem n_seq[h:wX P t ss]{ds:List C}{as bs:List D}(ha:oN cs=ς as)(hb:oN ds=ς bs)(h1:shB ss as=ζ)(h2:shB ss bs=ζ):
 AWN P ⟨ς d,.binOp .eql t x y t',ty,ps,af,gd⟩ [(x,.v (.agg cs)),(y,.v (.agg ds))] [] (tB (tN as bs)) []:=
 cf λE ac w hn _=>by
  obtain⟨a1,hu1,hc1⟩:=hn x _ (.head _)
  obtain⟨a2,hu2,hc2⟩:=hn y _ (.tail _ (.head _))
  have e1:a1=sP as:=by apply aaq;simpa [sP] using tk ha hc1
  have e2:a2=sP bs:=by apply aaq;simpa [sP] using tk hb hc2
  subst e1;subst e2
  refine⟨_,?_,rfl⟩
  have:=MT (P:=P) (t:=t) h1 h2 w .eql (.inl rfl) x y
  simp only[Sem.run_bind,if_true] at this
  simp only[execOp,hu1,hu2,Sem.run_bind]
  simp_all
theorem n_sne[h:wX P t ss]{ds:List C}{as bs:List D}(ha:oN cs=ς as)(hb:oN ds=ς bs)(h1:shB ss as=ζ)(h2:shB ss bs=ζ):
 AWN P ⟨ς d,.binOp .neq t x y t',ty,ps,af,gd⟩ [(x,.v (.agg cs)),(y,.v (.agg ds))] [] (tB (!tN as bs)) []:=
 cf λE ac w hn _=>by
  obtain⟨a1,hu1,hc1⟩:=hn x _ (.head _)
  obtain⟨a2,hu2,hc2⟩:=hn y _ (.tail _ (.head _))
  have e1:a1=sP as:=by apply aaq;simpa [sP] using tk ha hc1
  have e2:a2=sP bs:=by apply aaq;simpa [sP] using tk hb hc2
  subst e1;subst e2
  refine⟨_,?_,rfl⟩
  have:=MT (P:=P) (t:=t) h1 h2 w .neq (.inr rfl) x y
  simp only[Sem.run_bind,reduceCtorEq,if_false] at this
  simp only[execOp,hu1,hu2,Sem.run_bind]
  simp_all
theorem qe{ds:List C}{as bs:List D}[wX P t ss](hx:opT sl x= .v (.agg cs))(hy:opT sl y= .v (.agg ds))(hN:nlt d N=ζ)(ha:oN cs=ς as)(hb:oN ds=ς bs)(h1:shB ss as=ζ)(h2:shB ss bs=ζ):
 NS0 P N ⟨ς d,.binOp .eql t x y t',ty,ps,af,gd⟩ sl ob nx d (tB (tN as bs)) ⟨d,[(x,.v (.agg cs)),(y,.v (.agg ds))],[],tB (tN as bs),[]⟩:=c9 (st:=⟨sl,ob,nx⟩) (n_seq ha hb h1 h2) rfl hN ⟨hx,hy,θ⟩ trivial rfl
theorem qn{ds:List C}{as bs:List D}[wX P t ss](hx:opT sl x= .v (.agg cs))(hy:opT sl y= .v (.agg ds))(hN:nlt d N=ζ)(ha:oN cs=ς as)(hb:oN ds=ς bs)(h1:shB ss as=ζ)(h2:shB ss bs=ζ):
 NS0 P N ⟨ς d,.binOp .neq t x y t',ty,ps,af,gd⟩ sl ob nx d (tB (!tN as bs)) ⟨d,[(x,.v (.agg cs)),(y,.v (.agg ds))],[],tB (!tN as bs),[]⟩:=c9 (st:=⟨sl,ob,nx⟩) (n_sne ha hb h1 h2) rfl hN ⟨hx,hy,θ⟩ trivial rfl
end
def cpL(els ys:List α):List α:=ys.take els.length++els.drop ys.length
theorem LD{β:Type}(f:α->β)(els ys:List α):cpL (els.map f) (ys.map f)=(cpL els ys).map f:=by simp[cpL,aat,aax]
@[simp] theorem cpL_len (els ys:List α):(cpL els ys).length=els.length:=by simp[cpL];omega
section
variable{P:Program}{N:Nat}{d:Tmp}{ty:TypeId}{ps:String}{af:Array Edge}{gd:Option (Nat×Bool)}{x y z:Operand}{st:St}
theorem wF{us:Lae}(hn:us.length=n)(h:∀(j:Nat) (u:Value),us[j]?=ς u->w.cell? ⟨b,k+j,ξ⟩=ς u):
 (loadCells ⟨b,k,ξ⟩ n).run P w= .ok us.toArray w:=by
 subst hn
 have:=jF (P:=P) (b:=b) (k:=k) (w:=w) us 0 #[] (λj u hj=>by simp_all)
 simpa [loadCells] using this
theorem RT{by_ o:Nat}{ys:Lad}{c:C}[ht:da P t e sz by_](hd:d<N)(hx:opT st.sl x= .v (.c (.w o n)))(hy:opT st.sl y= .v (.c c))(ho:go st.ob o=ς (.row e sz els g ζ))(hs:Src st.ob c ys gy)(hn:els.length=n)(hsz:∀e∈ys,e.length=sz):
 AWO P N ⟨ς d,.call ⟨.builtin .copy,#[x,y],#[t,t]⟩,ty,ps,af,gd⟩ st ⟨(d,.any)::st.sl,(o,.row e sz (cpL els ys) (g&&gy) ζ)::st.ob,st.nx⟩:=by
 intro cx E a w hR
 have h1:=hR.op x;rw[hx] at h1
 have h2:=hR.op y;rw[hy] at h2
 obtain⟨b,cc,hr,hu⟩:=h1
 obtain⟨b',c',arr,hr',hh,ha,hlc,hmx,hes,hrd,hFm,_⟩:=hR.obs o _ ho
 rw[hr] at hr';cases hr'
 have hF:=hFm rfl
 obtain⟨A,k,hv,hyk,hA⟩:=K3 hR hs h2
 obtain⟨ii,zz,i1,i2,i3,i4,i5⟩:=ht.i
 obtain⟨m,hm⟩:∃m,m=Nat.min ys.length n:=⟨_,rfl⟩
 have hm1:m<=ys.length:=by rw[hm];exact Nat.min_le_left _ _
 have hm2:m<=n:=by rw[hm];exact Nat.min_le_right _ _
 have hcp:cpL els ys=ys.take m++els.drop m:=by
  unfold cpL
  rw[hn]
  rcases Nat.le_total ys.length n with h|h
  .grind
  simp_all
 have hsrc:∃news:Lae,news.length=m*sz/\(∀u∈news,u.oneCell'=ζ)/\(∀(j:Nat) (xd:D),(ys.take m).flatten[j]?=ς xd->∃u,news[j]?=ς u/\rdD w (E.H gy) xd u)/\
  (Builtin.firstCells sz m (.slice A ys.length k)).run P w= .ok news.toArray w:=by
  rcases hA with h0|⟨b2,off,rfl,hrd2⟩
  .subst h0
   have hm0:m=0:=by simpa using hm1
   refine⟨[],by simp[hm0],by simp,by simp,?_⟩
   cases A with
   |none=>rfl
   |some ad=>simp[Builtin.firstCells,hm0,loadCells,loadCellsFrom]
  obtain⟨us,q1,q2,q3,q4⟩:=tc (eu.1 (lH m hrd2))
  have ql:us.length=m*sz:=by
   rw[q1,eh (λe he=>hsz e (ZL he)),aaf,aag hm1]
  refine⟨us,ql,q3,q4,?_⟩
  simp only[Builtin.firstCells]
  exact wF ql (λj u hj=>by have:=q2 j u hj;rwa [sm] at this)
 obtain⟨news,n1,n2,n3,n4⟩:=hsrc
 have hmul:m*sz<=arr.size:=by rw[ha];exact Nat.mul_le_mul_right _ oaa
 have hst:=run_storeCells_at (P:=P) b 0 e news 0 arr w hh (by simp;omega) n2
 have hrun:(Builtin.copy_ #[t,t] ty #[.slice (ς ⟨b,0,ξ⟩) n cc,.slice A ys.length k]).run P w= .ok (goInt m) (w.setRow b (news++arr.toList.drop (m*sz)).toArray):=by
  simp only[Zs,n1] at hst
  simp only[Builtin.copy_]
  simp[underlying,ht.u,Builtin.lenOf,d7 i1,i2]
  rw[<-hm,n4]
  simp[hst]
 unfold Oper.wp
 simp only[execOp,resolve,invoke,builtin,Sem.run_bind,Sem.run_pure,Result.andThen_ok,aal,aac,aae,hu,hv,hrun,Oper.upon_value]
 have hk:=iQ (cs:=(news++arr.toList.drop (m*sz)).toArray) (w:=w) hR.ok hr hF
 have hall:∀e'∈cpL els ys,e'.length=sz:=λe' he'=>by
  grind
 have hrel:=qv (ob':=.row e sz (cpL els ys) (g&&gy) ζ) (cs:=(news++arr.toList.drop (m*sz)).toArray) hR hr hF ⟨b,cc,_,hr,fC _ hh,by simp_all,by simp_all,hmx,hall,by
  rw[eu]
  refine lA λj xd hj=>?_
  rw[Zs,dw (fC _ hh),List.getElem?_toArray]
  rw[hcp,aah] at hj
  have hfl:(ys.take m).flatten.length=m*sz:=by rw[eh (λe he=>hsz e (ZL he)),aaf,aag hm1]
  by_cases hjn:j<m*sz
  .rw[Zt oaa] at hj
   obtain⟨u,u1,u2⟩:=n3 _ _ hj
   exact⟨u,by grind,bP (hk.heap _) (hk.H _) _ _ (mX hR.ok u2 (by simp))⟩
  rw[Zr oaa,hfl] at hj
  have hjd:els.flatten[j]?=ς xd:=by
   have e1:els.flatten=(els.take m).flatten++(els.drop m).flatten:=by rw[<-aah,List.take_append_drop]
   have e2:(els.take m).flatten.length=m*sz:=by rw[eh (λe he=>hes e (ZL he)),aaf,aag oaa]
   rw[e1,Zr oaa,e2];exact hj
  obtain⟨u,u1,u2⟩:=iA (eu.1 hrd) hjd
  rw[Zs,dw hh] at u1
  refine⟨u,?_,bP (hk.heap _) (hk.H _) _ _ (mX hR.ok u2 (by simp_all))⟩
  rw[Zr oaa,n1,ZZ,show m*sz+(j-m*sz)=j from by omega]
  simp_all,λ_=>hF,(λh=>by cases h),θ⟩
 exact⟨E,hrel.putAny hd _⟩
theorem cpT{enc:α->List D}{ob:Laa}{by_ o:Nat}{ys zs:List α}{zd:Lad}{gg:Bool}{c:C}[da P t e sz by_](hzd:zs.map enc=zd)(henc:∀a,(enc a).length=sz)(hn:ys.length=n)(hs:Src ob c zd gy)(hd:nlt d N=ζ)(hx:opT sl x= .v (.c (.w o n)))(hy:opT sl y= .v (.c c))(ho:go ob o=ς (.row e sz (ys.map enc) g ζ))(hg:(g&&gy)=gg):
 AWO P N ⟨ς d,.call ⟨.builtin .copy,#[x,y],#[t,t]⟩,ty,ps,af,gd⟩ ⟨sl,ob,nx⟩ ⟨(d,.any)::sl,(o,.row e sz ((cpL ys zs).map enc) gg ζ)::ob,nx⟩:=by
 subst hzd;subst hg
 have:=RT (P:=P) (N:=N) (st:=⟨sl,ob,nx⟩) (d:=d) (ty:=ty) (ps:=ps) (af:=af) (gd:=gd) (t:=t) (e:=e) (sz:=sz) (by_:=by_) (bO hd) hx hy ho hs (by simp_all) (FD henc zs)
 rwa [LD] at this
def qd:List D->Bool
 |[]=>ζ
 | .l _::_=>η
 |_::xs=>qd xs
theorem yf{w:World}{F F':Nat->Prop}:∀{e:List D} {b k:Nat},qd e=ζ->rdL w F e b k->rdL w F' e b k
 |[],_,_,_,_=>by simp[rdL]
 | .i k' n::xs,b,k,h,hr=>by
  rw[rdL] at hr ⊢
  exact⟨by obtain⟨u,h1,h2⟩:=hr.1;exact⟨u,h1,by simpa [rdD] using h2⟩,yf (by simpa [qd] using h) hr.2⟩
 | .b n::xs,b,k,h,hr=>by
  rw[rdL] at hr ⊢
  exact⟨by obtain⟨u,h1,h2⟩:=hr.1;exact⟨u,h1,by simpa [rdD] using h2⟩,yf (by simpa [qd] using h) hr.2⟩
 | .str n::xs,b,k,h,hr=>by
  rw[rdL] at hr ⊢
  exact⟨by obtain⟨u,h1,h2⟩:=hr.1;exact⟨u,h1,by simpa [rdD] using h2⟩,yf (by simpa [qd] using h) hr.2⟩
 | .k _ _ _::xs,b,k,h,hr=>by
  rw[rdL] at hr ⊢
  exact⟨by obtain⟨u,h1,h2⟩:=hr.1;exact⟨u,h1,by simpa [rdD] using h2⟩,yf (by simpa [qd] using h) hr.2⟩
 | .l _::_,_,_,h,_=>by simp[qd] at h
theorem vL{w:World}{F F':Nat->Prop}:∀{es:Lad} {b k:Nat},(∀e∈es,qd e=ζ)->rdLL w F es b k->rdLL w F' es b k
 |[],_,_,_,_=>by simp[rdLL]
 |e::es,b,k,h,hr=>by
  rw[rdLL] at hr ⊢
  exact⟨yf (h e (by simp)) hr.1,vL (λx hx=>h x (by simp[hx])) hr.2⟩
theorem tC{enc:α->List D}{ob:Laa}{o t:Nat}{ys:List α}(ho:go ob o=ς (.row t sz (ys.map enc) g ζ):=by exact rfl)(hf:∀a,qd (enc a)=true:=by exact λ_=>rfl):
 cB N ⟨sl,ob,nx⟩ ⟨sl,(o,.row t sz (ys.map enc) ζ ζ)::ob,nx⟩:=by
 intro cx E a w hR
 refine⟨E,hR.ok,hR.dom,λl x hl=>?_,hR.sl,hR.dfr,hR.size,hR.td⟩
 by_cases hlo:o=l
 .subst hlo
  rw[bM] at hl;cases hl
  obtain⟨b,c,arr,h1,h2,h3,h4,h5,h6,h7,h8,h9⟩:=hR.obs _ _ ho
  exact⟨b,c,arr,h1,h2,h3,h4,h5,h6,vL (λe he=>by grind) h7,h8,(λh=>by cases h),θ⟩
 rw[a9 _ _ hlo] at hl;exact hR.obs l x hl
end
def zo(k:IntKind)(x y:Int):Int:=k.wrap (BitVec.ofInt k.bits x&&& BitVec.ofInt k.bits y).toNat
def bOr(k:IntKind)(x y:Int):Int:=k.wrap (BitVec.ofInt k.bits x|||BitVec.ofInt k.bits y).toNat
def GY(k:IntKind)(x y:Int):Int:=k.wrap (BitVec.ofInt k.bits x^^^BitVec.ofInt k.bits y).toNat
def vB(k:IntKind)(x y:Int):Int:=k.wrap (BitVec.ofInt k.bits x&&& ~~~(BitVec.ofInt k.bits y)).toNat
def lO(k:IntKind)(x y:Int):Int:=k.wrap (x*2^(min y.toNat k.bits))
def E9(k:IntKind)(x y:Int):Int:=x.fdiv (2^(min y.toNat k.bits))
def P7(op:BinOp)(k:IntKind)(a b:Int):Option Int:=
 match op with
 | .and=>ς (zo k a b)
 | .or=>ς (bOr k a b)
 | .xor=>ς (GY k a b)
 | .andNot=>ς (vB k a b)
 |_=>ξ
def Ta(op:BinOp)(k:IntKind)(a b:Int):Option Int:=
 match op with
 | .shl=>ς (lO k a b)
 | .shr=>ς (E9 k a b)
 |_=>ξ
section
variable{P:Program}{N:Nat}{d:Tmp}{ty:TypeId}{ps:String}{af:Array Edge}{gd:Option (Nat×Bool)}{x y z:Operand}{sl:Lab}{ob:Laa}{nx:Nat}
theorem n_bit{op:BinOp}{k:IntKind}{a b:Int}(h:P7 op k a b=ς r):
 AWN P ⟨ς d,.binOp op t x y t',ty,ps,af,gd⟩ [(x,.v (.c (.d g (.i k a)))),(y,.v (.c (.d g' (.i k b))))] [] (.v (.c (.d η (.i k r)))) []:=
 cf λE ac w hn _=>by
  have h1:=fZ (hn x _ (.head _))
  have h2:=fZ (hn y _ (.tail _ (.head _)))
  cases op<;>simp only[P7,Option.some.injEq,reduceCtorEq] at h<;>subst h<;>
   exact⟨_,by simp[execOp,h1,h2,eqGuard,binOp,Op.intBits];rfl,by simp[cvT,cvV,cvC,gD,rdD,zo,bOr,GY,vB]⟩
theorem n_sh{op:BinOp}{k k':IntKind}{a b:Int}(h0:0<=b)(h:Ta op k a b=ς r):
 AWN P ⟨ς d,.binOp op t x y t',ty,ps,af,gd⟩ [(x,.v (.c (.d g (.i k a)))),(y,.v (.c (.d g' (.i k' b))))] [] (.v (.c (.d η (.i k r)))) []:=
 cf λE ac w hn _=>by
  have h1:=fZ (hn x _ (.head _))
  have h2:=fZ (hn y _ (.tail _ (.head _)))
  have h0':¬b<0:=by omega
  cases op<;>simp only[Ta,Option.some.injEq,reduceCtorEq] at h<;>subst h<;>
   exact⟨_,by simp[execOp,h1,h2,eqGuard,binOp,Op.shift,h0'];rfl,by rfl⟩
theorem ib{op:BinOp}{k:IntKind}{a b:Int}(hx:opT sl x= .v (.c (.d g (.i k a))))(hy:opT sl y= .v (.c (.d g' (.i k b))))(hN:nlt d N=ζ)(h:P7 op k a b=ς r):
 NS0 P N ⟨ς d,.binOp op t x y t',ty,ps,af,gd⟩ sl ob nx d (.v (.c (.d η (.i k r)))) ⟨d,[(x,.v (.c (.d g (.i k a)))),(y,.v (.c (.d g' (.i k b))))],[],.v (.c (.d η (.i k r))),[]⟩:=c9 (st:=⟨sl,ob,nx⟩) (n_bit h) rfl hN ⟨hx,hy,θ⟩ trivial rfl
theorem ishT{op:BinOp}{k k':IntKind}{a b:Int}(h0:leB 0 b=ζ)(hx:opT sl x= .v (.c (.d g (.i k a))))(hy:opT sl y= .v (.c (.d g' (.i k' b))))(hN:nlt d N=ζ)(h:Ta op k a b=ς r):
 NS0 P N ⟨ς d,.binOp op t x y t',ty,ps,af,gd⟩ sl ob nx d (.v (.c (.d η (.i k r)))) ⟨d,[(x,.v (.c (.d g (.i k a)))),(y,.v (.c (.d g' (.i k' b))))],[],.v (.c (.d η (.i k r))),[]⟩:=c9 (st:=⟨sl,ob,nx⟩) (n_sh (by simp_all) h) rfl hN ⟨hx,hy,θ⟩ trivial rfl
theorem ishL{op:BinOp}{k k':IntKind}{a:Int}(hx:opT sl x= .v (.c (.d g (.i k a))))(hy:opT sl y= .v (.c (.d g' (.i k' (b:Int)))))(hN:nlt d N=ζ)(h:Ta op k a b=ς r):
 NS0 P N ⟨ς d,.binOp op t x y t',ty,ps,af,gd⟩ sl ob nx d (.v (.c (.d η (.i k r)))) ⟨d,[(x,.v (.c (.d g (.i k a)))),(y,.v (.c (.d g' (.i k' (b:Int)))))],[],.v (.c (.d η (.i k r))),[]⟩:=c9 (st:=⟨sl,ob,nx⟩) (n_sh oaa h) rfl hN ⟨hx,hy,θ⟩ trivial rfl
end
def E0(b c:Nat)(F:Nat->Prop):Env:={r:=λo=>if o=200 then ς (b,c) else ξ,F:=F,G:=λ_=>False}
def E1(b c:Nat)(F G:Nat->Prop):Env:={r:=λo=>if o=200 then ς (b,c) else ξ,F:=λx=>F x\/G x,G:=G}
def TV(E:Env)(w:World):List T->Lae->Prop
 |[],[]=>True
 |t::ts,u::us=>cvT E w t u/\TV E w ts us
 |_,_=>False
structure FnW(P:Program)(f:FuncId)(x:Ob)(args:List T)(y:Ob)(res:List RV):Prop where
 enters:∀(vs:Array Value) (w:World),(callFunc f vs).run P w= .ok (.enter f vs) w
 calls:∀(F:Nat->Prop) (w:World) (vals:Array Value) (b c:Nat),(∀b,F b->b<w.heap.size)->b<w.heap.size->TabsIn w->(∀k∈nT,k≠b)->cg (E0 b c F) w 200 x->TV (E0 b c F) w args vals.toList->
  Calls P f vals w λe w'=>∃v G bs,e= .returned v/\zk w w' (λk=>k=b)/\(∀k,G k->w.heap.size<=k/\k<w'.heap.size/\eJ w' k)/\wv w' G w.heap.size res v bs/\(bs.map (·.1)).Nodup/\cg (E1 b c F G) w' 200 y
def C.free:C->Bool
 | .d (.b _) _| .nil| .any| .fn _=>ζ
 |_=>η
def Ob.free:Ob->Bool
 | .var _ cs=>cs.all C.free
 | .row _ _ _ (.b _) m=>m
 | .row .. | .rown .. | .abs .. =>η
theorem s5{ty:Nat}{g:Gr}{m:Bool}(h:(Ob.row ty sz els g m).free=ζ):∃g',g=Gr.b g'/\m=true:=by
 cases g with
 |b g=>exact⟨g,rfl,h⟩
 |s n=>exact absurd h aaa
 |t n=>exact absurd h aaa
theorem Qe(hH:∀(g:Bool) b,E.H g b->E'.H g b)(hh:∀(g:Bool) b,E.H g b->w'.heap[b]?=w.heap[b]?):∀{c:C} {u:Value},c.free=ζ->cvC E w c u->cvC E' w' c u
 | .d (.b g) d,u,_,h=>bP (hh g) (hH g) d u h
 | .fn f,u,_,h=>h
 | .nil,u,_,h=>h
 | .any,u,_,_=>trivial
theorem EO{E E':Env}{w w':World}(hH:∀(g:Bool) b,E.H g b->E'.H g b)(hh:∀(g:Bool) b,E.H g b->w'.heap[b]?=w.heap[b]?):∀{cs:List C} {us:Lae},cs.all C.free=ζ->CV E w cs us->CV E' w' cs us
 |[],[],_,_=>trivial
 |c::cs,u::us,hf,h=>by
  simp only[ZR,hV] at hf
  exact⟨Qe hH hh hf.1 h.1,EO hH hh hf.2 h.2⟩
 |[],_::_,_,h=>h.elim
 |_::_,[],_,h=>h.elim
theorem xm{o o':Nat}(hf:x.free=ζ)(hr:∀b c,E.r o=ς (b,c)->E'.r o'=ς (b,c))(hH:∀(g:Bool) b,E.H g b->E'.H g b)(hh:∀(g:Bool) b,E.H g b->w'.heap[b]?=w.heap[b]?)(hb:∀b c,E.r o=ς (b,c)->w'.heap[b]?=w.heap[b]?)(hF:∀b c,E.r o=ς (b,c)->¬E.F b->¬E'.F b)(h:cg E w o x):cg E' w' o' x:=by
 cases x with
 |rown ty sz els g=>exact absurd hf aaa
 |abs l y=>exact absurd hf aaa
 |var ty cs=>
  obtain⟨b,c,arr,h1,h2,h3,h4⟩:=h
  exact⟨b,c,arr,hr b c h1,(hb b c h1).trans h2,EO hH hh hf h3,hF b c h1 h4⟩
 |row ty sz els g m=>
  cases g with
  |s n=>exact absurd hf aaa
  |t n=>exact absurd hf aaa
  |b g=>
  obtain⟨b,c,arr,h1,h2,h3,h4,h5,h6,h7,h8,h9⟩:=h
  have hm:m=true:=hf
  subst hm
  exact⟨b,c,arr,hr b c h1,(hb b c h1).trans h2,h3,h4,h5,h6,bS (hh g) (hH g) (hb b c h1) _ _ h7,λ_=>hF b c h1 (h8 rfl),(λh=>by cases h),θ⟩
def C.loc:C->C
 | .d (.b _) x=>.d η x
 |c=>c
def Ob.loc:Ob->Ob
 | .var ty cs=>.var ty (cs.map C.loc)
 | .row ty sz els (.b _) m=>.row ty sz els η m
 |x=>x
theorem UE{cx:Cx}(ok:cF cx E w){c:C}(h:cvC E w c u):cvC E w c.loc u:=by
 cases c with
 |d g x=>cases g with
  |b g=>exact mX (g':=η) ok h (by simp)
  |s n=>exact h
  |t n=>exact h
 |_=>exact h
theorem PB{cx:Cx}{E:Env}{w:World}(ok:cF cx E w):∀{cs:List C} {us:Lae},CV E w cs us->CV E w (cs.map C.loc) us
 |[],[],_=>trivial
 |c::cs,u::us,h=>⟨UE ok h.1,PB ok h.2⟩
 |[],_::_,h=>h.elim
 |_::_,[],h=>h.elim
theorem Ek{cx:Cx}(ok:cF cx E w){o:Nat}(hf:x.free=ζ)(h:cg E w o x):cg E w o x.loc:=by
 cases x with
 |rown ty sz els g=>exact absurd hf aaa
 |abs l y=>exact absurd hf aaa
 |var ty cs=>
  obtain⟨b,c,arr,h1,h2,h3,h4⟩:=h
  exact⟨b,c,arr,h1,h2,PB ok h3,h4⟩
 |row ty sz els g m=>
  cases g with
  |s n=>exact absurd hf aaa
  |t n=>exact absurd hf aaa
  |b g=>
  obtain⟨b,c,arr,h1,h2,h3,h4,h5,h6,h7,h8,h9⟩:=h
  have hm:m=true:=hf
  subst hm
  refine⟨b,c,arr,h1,h2,h3,h4,h5,h6,?_,h8,(λh=>by cases h),θ⟩
  cases g with
  |false=>exact h7
  |true=>exact bS (λ_ _=>rfl) (λb hb=>ok.gf b hb) rfl _ _ h7
def tG:Nat->List T->Lab
 |_,[]=>[]
 |k,t::ts=>(k,t)::tG (k+1) ts
theorem AG{E:Env}{w:World}:∀{ts:List T} {us:Lae} (k0:Nat),TV E w ts us->us.length=ts.length/\∀k,(k0<=k/\k<k0+ts.length->∃u,us[k-k0]?=ς u/\cvT E w (gt (tG k0 ts) k) u)/\(¬(k0<=k/\k<k0+ts.length)->gt (tG k0 ts) k= .any)
 |[],[],k0,_=>⟨rfl,λk=>⟨λh=>by grind,λ_=>rfl⟩⟩
 |t::ts,u::us,k0,h=>by
  obtain⟨h1,h2⟩:=AG (k0+1) h.2
  refine⟨by simp[h1],λk=>⟨λhk=>?_,λhk=>?_⟩⟩
  .by_cases e:k0=k
   .subst e;exact⟨u,by simp,by rw[tG,cG];exact h.1⟩
   obtain⟨v,k1,k2⟩:=(h2 k).1 (by grind)
   refine⟨v,?_,by rw[tG,b7 _ _ e];exact k2⟩
   grind
  simp at hk
  rw[tG,b7 _ _ oaa]
  grind
 |[],_::_,_,h=>h.elim
 |_::_,[],_,h=>h.elim
theorem Hn{ob:Laa}{c:C}{r:RC}{ls:List Nat}(h:tO ob c=ς (r,ls)):∀l∈ls,∃ty sz els,go ob l=ς (.row ty sz els ζ ζ):=by
 cases c with
 |d g x=>cases x<;>(try (rcases g with(_|_)|_))<;>simp[tO] at h<;>obtain⟨rfl,rfl⟩:=h<;>simp
 |w o n=>
  simp only[tO] at h
  grind
 |nil=>simp[tO] at h;simp_all
 |_=>simp[tO] at h
theorem DL{ob:Laa}:∀{cs:List C} {rs:List RC} {ls:List Nat},Ad ob cs=ς (rs,ls)->∀l∈ls,∃ty sz els,go ob l=ς (.row ty sz els ζ ζ)
 |[],rs,ls,h=>by simp[Ad] at h;simp_all
 |c::cs,rs,ls,h=>by
  simp only[Ad] at h
  split at h
  .rename_i r l rs' ls' h1 h2
   simp at h;obtain⟨rfl,rfl⟩:=h
   intro x hx
   rcases Zn.1 hx with hx|hx
   .exact Hn h1 x hx
   exact DL h2 x hx
  cases h
theorem QH{ob:Laa}{v:V}{r:RV}{ls:List Nat}(h:JZ ob v=ς (r,ls)):∀l∈ls,∃ty sz els,go ob l=ς (.row ty sz els ζ ζ):=by
 cases v with
 |c c=>
  simp only[JZ] at h
  split at h
  .rename_i r l h1;simp at h;obtain⟨rfl,rfl⟩:=h;exact Hn h1
  cases h
 |agg cs=>
  simp only[JZ] at h
  split at h
  .rename_i r l h1;simp at h;obtain⟨rfl,rfl⟩:=h;exact DL h1
  cases h
theorem DN{ob:Laa}:∀{cs:List V} {rs:List RV} {ls:List Nat},uu ob cs=ς (rs,ls)->∀l∈ls,∃ty sz els,go ob l=ς (.row ty sz els ζ ζ)
 |[],rs,ls,h=>by simp[uu] at h;simp_all
 |c::cs,rs,ls,h=>by
  simp only[uu] at h
  split at h
  .rename_i r l rs' ls' h1 h2
   simp at h;obtain⟨rfl,rfl⟩:=h
   intro x hx
   rcases Zn.1 hx with hx|hx
   .exact QH h1 x hx
   exact DN h2 x hx
  cases h
theorem UY{cx:Cx}(hR:Rel N cx E st a w)(hn:∀b,cx.In b->cx.w0.heap.size<=b){fn:Func}(h:Fin P fn.results.toList res st):
 ∃v bs,(results fn a.tmps).run P w= .ok v w/\wv w E.G cx.w0.heap.size res v bs/\(bs.map (·.1)).Nodup/\∀p∈bs,¬E.F p.1:=by
 obtain⟨vs,ls,h1,h2,h3⟩:=h
 obtain⟨us,k1,k2⟩:=sT hR h1
 obtain⟨bs,m1,m2,m3⟩:=BG hR hn h2 k2
 have hnd:(bs.map (·.1)).Nodup:=by
  have hnl:=eP h3
  refine ZJ.2 λi j hi hj hij he=>?_
  simp only[ZU] at hi hj
  obtain⟨p,p1,p2⟩:=m3 i ls[i] (Zl oaa)
  obtain⟨q,q1,q2⟩:=m3 j ls[j] (Zl oaa)
  rw[Zl hi] at p1
  rw[Zl hj] at q1
  cases p1;cases q1
  simp only[List.getElem_map] at he
  rcases hbi:bs[i] with⟨b1,c1⟩
  rcases hbj:bs[j] with⟨b2,c2⟩
  rw[hbi,hbj] at he
  rw[hbi] at p2;rw[hbj] at q2
  have hb:b1=b2:=he
  subst hb
  exact ZJ.1 hnl i j oaa oaa hij (hR.ok.inj _ _ _ _ _ p2 q2)
 have hnF:∀p∈bs,¬E.F p.1:=by
  intro p hp
  obtain⟨i,hi,rfl⟩:=List.getElem_of_mem hp
  have hl:i<ls.length:=by omega
  obtain⟨q,q1,q2⟩:=m3 i ls[i] (Zl hl)
  rw[Zl hi] at q1;cases q1
  obtain⟨ty,sz,els,hg⟩:=DN h2 ls[i] (List.getElem_mem hl)
  obtain⟨b,c,arr,r1,r2,r3,r4,r5,r6,r7,r8,r9⟩:=hR.obs _ _ hg
  rw[q2] at r1
  rw[Option.some.inj r1]
  exact r8 rfl
 have hm:(fn.results.mapM (jC a.tmps)).run P w= .ok us.toArray w:=by
  rw[<-ZY (xs:=fn.results),aau]
  simp only[Sem.run_map,k1]
  rfl
 have hres:results fn a.tmps=(fn.results.mapM (jC a.tmps))>>= λvs=>pure (if h:vs.size=1 then vs[0] else .tuple vs):=rfl
 have hlen:us.length=vs.length:=by
  have key:∀(vs:List V) (us:Lae),VV E w vs us->us.length=vs.length:=by
   intro vs
   induction vs with
   |nil=>intro us h;cases us with
    |nil=>rfl
    |cons _ _=>exact h.elim
   |cons v vs ih=>intro us h;cases us with
    |nil=>exact h.elim
    |cons u us=>simp[ih us h.2]
  exact key vs us k2
 have hlen2:us.length=res.length:=by
  have key:∀(rs:List RV) (us:Lae) (bs:Lac),zY w E.G cx.w0.heap.size rs us bs->us.length=rs.length:=by
   intro rs
   induction rs with
   |nil=>intro us bs h;cases us with
    |nil=>rfl
    |cons _ _=>exact h.elim
   |cons v vs ih=>intro us bs h;cases us with
    |nil=>exact h.elim
    |cons u us=>obtain⟨b1,b2,_,_,h⟩:=h;grind
  exact key res us bs m1
 match res,us,m1,hlen2 with
 |[],[],m1,_=>exact⟨.tuple #[],bs,by simp_all,⟨#[],rfl,m1⟩,hnd,hnF⟩
 |[r],[u],m1,_=>
  obtain⟨b1,b2,rfl,h4,h5⟩:=m1
  have:b2=[]:=h5
  subst this
  exact⟨u,b1++[],by simp_all,by simpa [wv] using h4,hnd,hnF⟩
 |r1::r2::rs,u1::u2::us,m1,_=>
  exact⟨.tuple (u1::u2::us).toArray,bs,by simp_all,⟨_,rfl,m1⟩,hnd,hnF⟩
theorem Iv{G G2:Nat->Prop}{base:Nat}(hG:∀b,G b->G2 b){r:RC}{bs:Lac}(h:rcR w G base r u bs)(hn:∀p∈bs,¬G2 p.1):rcR w G2 base r u bs:=by
 cases r with
 |d x=>exact⟨h.1,bP (λ_ _=>rfl) hG x u h.2⟩
 |own ty sz els n=>
  obtain⟨b,c,arr,h1,h2,h3,h4,h5,h6,h7,h8,h9,h10⟩:=h
  exact⟨b,c,arr,h1,h2,h3,h4,h5,h6,h7,bS (λ_ _=>rfl) hG rfl _ _ h8,hn (b,c) (by rw[h1];simp),h10⟩
 |nil=>exact h
theorem Eh{w:World}{G G2:Nat->Prop}{base:Nat}(hG:∀b,G b->G2 b):∀{rs:List RC} {us:Lae} {bs:Lac},Ci w G base rs us bs->(∀p∈bs,¬G2 p.1)->Ci w G2 base rs us bs
 |[],[],bs,h,_=>h
 |r::rs,u::us,bs,h,hn=>by
  obtain⟨b1,b2,rfl,h1,h2⟩:=h
  exact⟨b1,b2,rfl,Iv hG h1 (λp hp=>hn p (by simp[hp])),Eh hG h2 (λp hp=>hn p (by simp[hp]))⟩
 |[],_::_,_,h,_=>h.elim
 |_::_,[],_,h,_=>h.elim
theorem IJ{G G2:Nat->Prop}{base:Nat}(hG:∀b,G b->G2 b){r:RV}{bs:Lac}(h:rvR w G base r u bs)(hn:∀p∈bs,¬G2 p.1):rvR w G2 base r u bs:=by
 cases r with
 |c r=>exact Iv hG h hn
 |agg rs=>obtain⟨arr,h1,h2⟩:=h;exact⟨arr,h1,Eh hG h2 hn⟩
theorem zZ{w:World}{G G2:Nat->Prop}{base:Nat}(hG:∀b,G b->G2 b):∀{rs:List RV} {us:Lae} {bs:Lac},zY w G base rs us bs->(∀p∈bs,¬G2 p.1)->zY w G2 base rs us bs
 |[],[],bs,h,_=>h
 |r::rs,u::us,bs,h,hn=>by
  obtain⟨b1,b2,rfl,h1,h2⟩:=h
  exact⟨b1,b2,rfl,IJ hG h1 (λp hp=>hn p (by simp[hp])),zZ hG h2 (λp hp=>hn p (by simp[hp]))⟩
 |[],_::_,_,h,_=>h.elim
 |_::_,[],_,h,_=>h.elim
theorem OJ{G G2:Nat->Prop}{base:Nat}(hG:∀b,G b->G2 b){rs:List RV}{bs:Lac}(h:wv w G base rs u bs)(hn:∀p∈bs,¬G2 p.1):wv w G2 base rs u bs:=by
 match rs,h with
 |[],h=>obtain⟨arr,h1,h2⟩:=h;exact⟨arr,h1,zZ hG h2 hn⟩
 |[r],h=>exact IJ hG h hn
 |_::_::_,h=>obtain⟨arr,h1,h2⟩:=h;exact⟨arr,h1,zZ hG h2 hn⟩
def pP(N:Nat)(P:Program)(rs:List ResultVar)(res:List RV)(y:Ob):Exit->St->Prop
 | .ret,s| .normal,s=>∃s',cB N s s'/\Fin P rs res s'/\go s'.ob 200=ς y
 |_,_=>False
instance {N:Nat} {P:Program} {rs:List ResultVar} {res:List RV} {y:Ob}:Clo N (pP N P rs res y):=⟨λe s m hw h=>by
 cases e<;>simp only[pP] at h ⊢<;>first|exact h|(obtain⟨s',h1,h2⟩:=h;exact⟨s',aK hw h1,h2⟩)⟩
theorem QN{fn:Func}{c:Code}{args:List T}{sl0:Lab}(hf:P.funcs[f]?=ς fn)(hb:fn.body=ς c:=by exact rfl)(hnm:(fn.name== "runtime.NumGoroutine")=false:=by kernel_rfl)(hN:fn.ntmps=N)(hrs:fn.results.toList=rs:=by exact rfl)(ha:Zw args.length N=true:=by exact rfl)(hfx:x.free=true:=by exact rfl)(hfy:y.free=true:=by exact rfl)(hs:tG 0 args=sl0:=by exact rfl)(h:AWC P N c ⟨sl0,[(200,x)],210⟩ (pP N P rs res y)):FnW P f x args y res:=by
 subst hs
 refine⟨λvs w=>by simp[callFunc,hf,hb];simp_all,λF w vals b cc hF hbl hT hTb hx hA=>?_⟩
 subst hrs
 refine calls_of_wp hf hb ?_
 obtain⟨h1,h2⟩:=AG 0 hA
 have hle:args.length<=N:=ZK ha
 have hsz:vals.size=args.length:=by simpa using h1
 have hrv:rsv 200=true:=rfl
 have hrp:rsp 200=true:=rfl
 have hbF:¬F b:=by
  cases x with
  |rown ty sz els g=>exact absurd hfx aaa
  |abs l y=>exact absurd hfx aaa
  |var ty cs=>obtain⟨b',c',arr,h1,h2,h3,h4⟩:=hx;cases h1;exact h4
  |row ty sz els g m=>
   obtain⟨b',c',arr,h1,h2,h3,h4,h5,h6,h7,h8,h9⟩:=hx
   cases h1
   obtain⟨g,rfl,rfl⟩:=s5 hfx
   exact h8 rfl
 have hr0:∀o p,(E0 b cc F).r o=ς p->o=200/\p=(b,cc):=λo p h=>by
  simp only[E0] at h
  simp_all
 have hR:Rel N ⟨w,λk=>k=b,(E0 b cc F).r,F,λ_=>False,⟨hT,hTb⟩,λ_=>False⟩ (E0 b cc F) ⟨tG 0 args,[(200,x)],210⟩ {tmps:=vals++Zv (fn.ntmps-vals.size) undef,defers:=[]} w:=by
  refine⟨⟨hF,λ_ h=>h.elim,λ_ h=>h.elim,λo k k' h=>?_,λo o' k k' k'' h h'=>?_,rfl,rfl,rfl,Zu _,λ_ _ _=>rfl,λ_ _ _ h=>h,λ_ h=>.inl h,λb h h'=>absurd (hF b h) (aak.2 (h'.resolve_right λh=>h.2.1)),⟨λ_ _ h=>h.elim,λ_ _ _ h=>h.elim,λ_ h=>h.elim,λ_ h=>h.elim,λ_ h=>h.elim⟩⟩,λo p h=>?_,λo ob h=>?_,λk=>?_,rfl,by simp;omega,λ_ _ h=>h.elim⟩
  .grind
  .grind
  .grind
  .by_cases e:200=o
   .subst e;rw[bM] at h;grind
   rw[a9 _ _ e] at h;cases h
  by_cases hk:k<args.length
  .obtain⟨u,h3,h4⟩:=(h2 k).1 ⟨ZA _,by omega⟩
   have:(vals++Zv (fn.ntmps-vals.size) undef).getD k undef=u:=by
    have h5:vals[k]?=ς u:=by simpa using h3
    have h6:(vals++Zv (fn.ntmps-vals.size) undef)[k]?=ς u:=by rw[aao oaa];exact h5
    simp[h6]
   grind
  have:=(h2 k).2 oaa
  show cvT _ w (gt (tG 0 args) k) _
  rw[this];trivial
 refine wp_mono (h _ _ _ w hR) ?_
 rintro e a' w' ⟨E',s',hR',hq⟩
 have fin:(∃s'',cB N s' s''/\Fin P fn.results.toList res s''/\go s''.ob 200=ς y)->
  a'.defers=[]/\∃v,(results fn a'.tmps).run P w'= .ok v w'/\∃v' G bs,Ending.returned v= .returned v'/\zk w w' (λk=>k=b)/\(∀k,G k->w.heap.size<=k/\k<w'.heap.size/\eJ w' k)/\wv w' G w.heap.size res v' bs/\(bs.map (·.1)).Nodup/\cg (E1 b cc F G) w' 200 y:=by
  rintro⟨s'',hw,hfin,hgo⟩
  obtain⟨E'',hR''⟩:=hw _ _ _ _ hR'
  obtain⟨v,bs,k1,k2,k3,k4⟩:=UY hR'' (λb h=>h.resolve_right λh=>h.2.1) hfin
  have ok:=hR''.ok
  refine⟨hR''.dfr,v,k1,v,λk=>E''.F k/\w.heap.size<=k,bs,rfl,⟨ok.os,ok.tape,ok.output,ok.size,ok.block⟩,λk hk=>⟨hk.2,ok.fb k hk.1,ok.gc k hk.1 (.inl hk.2)⟩,OJ (λk hk=>⟨ok.gf k hk,(ok.gn k hk).resolve_right id⟩) k2 (λp hp hg=>k4 p hp hg.1),k3,?_⟩
  refine xm hfy (λk c hk=>?_) (λg k hk=>?_) (λ_ _ _=>rfl) (λ_ _ _=>rfl) (λk c hk hn hk'=>?_) (hR''.obs _ _ hgo)
  .have:=ok.pin 200 _ hrp hk
   exact this
  .cases g with
   |false=>
    rcases ok.ff k hk with h|h
    .exact .inl h
    exact .inr ⟨hk,h⟩
   |true=>exact⟨ok.gf k hk,(ok.gn k hk).resolve_right id⟩
  rcases hk' with h|h
  .have:=ok.pin 200 _ hrp hk
   grind
  grind
 cases e with
 |normal=>exact fin hq
 |ret=>exact fin hq
 |_=>exact hq.elim
def wu(nob:Laa)(o:Nat):C->Option (C×Lac)
 | .p l k=>bif d0 l o then ς (.p 200 k,[]) else ξ
 | .w l n=>bif d0 l o then ς (.w 200 n,[]) else match uA nob (.w l n) with
  |some (x,e)=>ς (.d η x,e)
  |none=>ξ
 | .nil=>ς (.nil,[])
 |c=>match uA nob c with
  |some (x,e)=>ς (.d η x,e)
  |none=>ξ
def HY(nob:Laa)(o:Nat):List C->Option (List C×Lac)
 |[]=>ς ([],[])
 |c::cs=>match wu nob o c,HY nob o cs with
  |some (x,e),ς (xs,e')=>ς (x::xs,e++e')
  |_,_=>ξ
def XP(nob:Laa)(o:Nat):T->Option (T×Lac)
 | .v (.c c)=>match wu nob o c with
  |some (x,e)=>ς (.v (.c x),e)
  |none=>ξ
 | .v (.agg cs)=>match HY nob o cs with
  |some (x,e)=>ς (.v (.agg x),e)
  |none=>ξ
 |_=>ξ
def wG(nob:Laa)(o:Nat):List T->Option (List T×Lac)
 |[]=>ς ([],[])
 |c::cs=>match XP nob o c,wG nob o cs with
  |some (x,e),ς (xs,e')=>ς (x::xs,e++e')
  |_,_=>ξ
section
variable{cx:Cx}{E:Env}{w:World}{nob:Laa}{o b c0:Nat}(ok:cF cx E w)(hob:∀l x,go nob l=ς x->cg E w l x)(hr:E.r o=ς (b,c0))
include ok hob hr
theorem Mj{c:C}{x:C}{e:Lac}(h:wu nob o c=ς (x,e))(he:Eqs e)(hc:cvC E w c u):cvC (E0 b c0 (kL E nob)) w x u:=by
 have gen:∀{c x e},(match uA nob c with|some (x,e)=>ς (C.d η x,e)|none=>ξ)=ς (x,e)->Eqs e->cvC E w c u->cvC (E0 b c0 (kL E nob)) w x u:=by
  intro c x e h he hc
  split at h
  .rename_i y e' h1
   simp at h;obtain⟨rfl,rfl⟩:=h
   exact AJ ok hob h1 he hc
  cases h
 cases c with
 |p l k=>
  simp only[wu] at h
  cases hb:d0 l o with
  |false=>simp_all
  |true=>
   rw[hb] at h;simp at h;obtain⟨rfl,rfl⟩:=h
   have:=Zo hb;subst this
   obtain⟨b',c',h1,h2⟩:=hc
   rw[hr] at h1;cases h1
   exact⟨b,c0,by simp[E0],h2⟩
 |w l n=>
  simp only[wu] at h
  cases hb:d0 l o with
  |false=>grind
  |true=>
   rw[hb] at h;simp at h;obtain⟨rfl,rfl⟩:=h
   have:=Zo hb;subst this
   obtain⟨b',c',h1,h2⟩:=hc
   rw[hr] at h1;cases h1
   exact⟨b,c0,by simp[E0],h2⟩
 |nil=>simp[wu] at h;obtain⟨rfl,rfl⟩:=h;exact hc
 |d g y=>exact gen (by simpa only[wu] using h) he hc
 |s o sz off len=>exact gen (by simpa only[wu] using h) he hc
 |e o sz i j=>exact gen (by simpa only[wu] using h) he hc
 |q g x j=>exact gen (by simpa only[wu] using h) he hc
 |fn f=>exact gen (by simpa only[wu] using h) he hc
 |any=>exact gen (by simpa only[wu] using h) he hc
 |r l x=>exact gen (by simpa only[wu] using h) he hc
 |z x=>exact gen (by simpa only[wu] using h) he hc
 |zq x j=>exact gen (by simpa only[wu] using h) he hc
 |wn l n=>exact gen (by simpa only[wu] using h) he hc
theorem H1:∀{cs xs:List C} {e:Lac} {us:Lae},HY nob o cs=ς (xs,e)->Eqs e->CV E w cs us->CV (E0 b c0 (kL E nob)) w xs us
 |[],xs,e,us,h,he,hc=>by simp[HY] at h;obtain⟨rfl,rfl⟩:=h;cases us with
  |nil=>trivial
  |cons _ _=>exact hc.elim
 |c::cs,xs,e,us,h,he,hc=>by
  simp only[HY] at h
  split at h
  .rename_i x e1 xs' e2 h1 h2
   simp at h;obtain⟨rfl,rfl⟩:=h
   obtain⟨g1,g2⟩:=dq he
   cases us with
   |nil=>exact hc.elim
   |cons u us=>exact⟨Mj ok hob hr h1 g1 hc.1,H1 h2 g2 hc.2⟩
  cases h
theorem Va{t t':T}{e:Lac}(h:XP nob o t=ς (t',e))(he:Eqs e)(hc:cvT E w t u):cvT (E0 b c0 (kL E nob)) w t' u:=by
 unfold XP at h
 split at h
 .split at h
  .rename_i c x e' h1;simp at h;obtain⟨rfl,rfl⟩:=h;exact Mj ok hob hr h1 he hc
  cases h
 .split at h
  .rename_i cs x e' h1;simp at h;obtain⟨rfl,rfl⟩:=h
   obtain⟨arr,hu,hc⟩:=hc
   exact⟨arr,hu,H1 ok hob hr h1 he hc⟩
  cases h
 cases h
theorem B6{a:Act}:∀{ts ts':List T} {e:Lac} {args:List Operand},wG nob o ts=ς (ts',e)->Eqs e->ts.length=args.length->(∀x t,(x,t)∈args.zip ts->cvT E w t (a.eval x))->TV (E0 b c0 (kL E nob)) w ts' (args.map a.eval)
 |[],ts',e,args,h,he,hl,hn=>by
  simp[wG] at h;obtain⟨rfl,rfl⟩:=h
  cases args with
  |nil=>trivial
  |cons _ _=>simp at hl
 |t::ts,ts',e,args,h,he,hl,hn=>by
  simp only[wG] at h
  split at h
  .rename_i x e1 xs' e2 h1 h2
   simp at h;obtain⟨rfl,rfl⟩:=h
   obtain⟨g1,g2⟩:=dq he
   cases args with
   |nil=>simp at hl
   |cons y args=>exact⟨Va ok hob hr h1 g1 (hn y t (by simp)),B6 h2 g2 (by simp_all) (λx t hm=>hn x t (by simp[hm]))⟩
  cases h
end
theorem Vs{d:Tmp}{ob:Laa}{o:Nat}{x0:Ob}{eqs:Lac}{nw:Laa}(hF:FnW P f x0.loc ts' y res)(ht:ni sl args=ς ts)(ho:go ob o=ς x0)(hfx:x0.free=ζ)(hfy:y.free=ζ)(ha:wG [] o ts=ς (ts',eqs))(he:Eqs eqs)(hi:xi nx res=ς (out,nw,n))(hw:zL nx nw n=ζ)(hN:nlt d N=ζ):
 AWO P N ⟨ς d,.call ⟨.value (.func f),args.toArray,tys⟩,ty,ps,af,gd⟩ ⟨sl,ob,nx⟩ ⟨(d,out)::sl,nw++(o,y)::ob,n⟩:=by
 intro cx E a w hR
 obtain⟨t1,t2⟩:=nN ht
 obtain⟨nob,hnob⟩:∃nob:Laa,nob=[]:=⟨_,rfl⟩
 rw[<-hnob] at ha
 have hob:∀l x,go nob l=ς x->cg E w l x:=λl x h=>by subst hnob;cases h
 have hx0:=hR.obs o x0 ho
 obtain⟨b,c0,hr,hbF⟩:∃b c0,E.r o=ς (b,c0)/\¬E.F b:=by
  cases x0 with
  |rown ty sz els g=>exact absurd hfx aaa
  |abs l y=>exact absurd hfx aaa
  |var t cs=>obtain⟨b,c,arr,h1,h2,h3,h4⟩:=hx0;simp_all
  |row t sz els g m=>
   obtain⟨b,c,arr,h1,h2,h3,h4,h5,h6,h7,h8,h9⟩:=hx0
   obtain⟨g,rfl,rfl⟩:=s5 hfx
   simp_all
 have hnl:∀l x,go nob l=ς x->l≠o:=λl x h=>by subst hnob;cases h
 have hbC:¬kL E nob b:=by
  rintro(h|⟨l,x,c,h1,h2⟩)
  .exact hbF h
  exact hnl l x h1 (hR.ok.inj _ _ _ _ _ h2 hr)
 have hFb:∀b,kL E nob b->b<w.heap.size:=by
  rintro b (h|⟨l,x,c,h1,h2⟩)
  .exact hR.ok.fb b h
  exact(hR.ok.rb l b c h2).1
 have hbs0:=(hR.ok.rb o b c0 hr).1
 have hA:=B6 (a:=a) hR.ok hob hr ha he t1 (λx t hm=>by have:=hR.op x;rwa [Lk.mem t2 x t hm] at this)
 have hX:cg (E0 b c0 (kL E nob)) w 200 x0.loc:=by
  have hl:=Ek hR.ok hfx hx0
  have hfl:x0.loc.free=true:=by
   cases x0 with
   |rown ty sz els g=>exact absurd hfx aaa
   |abs l y=>exact absurd hfx aaa
   |var t cs=>
    simp only[Ob.loc,Ob.free,List.all_map] at hfx ⊢
    refine Zq.2 λc hc=>?_
    have:=Zq.1 hfx c hc
    cases c<;>(try (rename_i g _;cases g))<;>simp_all [C.loc,C.free]
   |row t sz els g m=>obtain⟨g,rfl,rfl⟩:=s5 hfx;rfl
  have hnoG:∀E2:Env,(∀k,E.F k->E2.F k)->E2.r 200=ς (b,c0)->¬E2.F b->cg E2 w 200 x0.loc:=by
   intro E2 h1 h2 h3
   cases x0 with
   |rown ty sz els g=>exact absurd hfx aaa
   |abs l y=>exact absurd hfx aaa
   |var t cs=>
    obtain⟨b',c',arr,k1,k2,k3,k4⟩:=hl
    rw[hr] at k1;cases k1
    refine⟨b,c0,arr,h2,k2,?_,h3⟩
    have key:∀(cs:List C) (us:Lae),cs.all C.free=ζ->CV E w (cs.map C.loc) us->CV E2 w (cs.map C.loc) us:=by
     intro cs
     induction cs with
     |nil=>
      intro us _ h
      cases us with
      |nil=>trivial
      |cons _ _=>exact h.elim
     |cons c cs ih=>
      intro us hf h
      simp only[ZR,hV] at hf
      cases us with
      |nil=>exact h.elim
      |cons u us=>
       refine⟨?_,ih us hf.2 h.2⟩
       have h5:=h.1
       cases c with
       |d g y=>cases g with
        |b g=>exact bP (λ_ _=>rfl) h1 _ _ h5
        |s n=>simp[C.free] at hf
        |t n=>simp[C.free] at hf
       |nil=>exact h5
       |fn f=>exact h5
       |any=>trivial
       |_=>simp[C.free] at hf
    exact key cs _ hfx k3
   |row t sz els g m=>
    obtain⟨g,rfl,rfl⟩:=s5 hfx
    obtain⟨b',c',arr,k1,k2,k3,k4,k5,k6,k7,k8,k9⟩:=hl
    rw[hr] at k1;cases k1
    exact⟨b,c0,arr,h2,k2,k3,k4,k5,k6,bS (λ_ _=>rfl) h1 rfl _ _ k7,λ_=>h3,(λh=>by cases h),θ⟩
  exact hnoG _ (λk hk=>.inl hk) (by simp[E0]) hbC
 have hc:=hF.calls (kL E nob) w (args.map a.eval).toArray b c0 hFb hbs0 hR.ok.tabs (hR.ok.ntab hr) hX oaa
 have hent:=hF.enters (args.map a.eval).toArray w
 unfold Oper.wp
 have hrun:(execOp a.eval ⟨ς d,.call ⟨.value (.func f),args.toArray,tys⟩,ty,ps,af,gd⟩).run P w= .ok (.enter f (args.map a.eval).toArray) w:=by
  simp only[execOp,resolve,Act.eval,Deferred.ofValue,Sem.run_bind,Sem.run_pure,Result.andThen_ok,invoke]
  simpa using hent
 rw[hrun,Oper.upon_enter]
 refine hc.mono ?_
 rintro e w' ⟨v,G,bs,rfl,hpast,hG2,hres,hnd,hY⟩
 have hdom:∀l p,E.r l=ς p->l<nx:=hR.dom
 have hbs:=yE hres
 have hnw:=Nw.mem (yt hw)
 have hlab:∀l,nx<=l->l<nx+bs.length->E.r l=ξ/\rsv l=false:=by
  have himp:=vQ (E:=⟨λo=>bs[o-nx]?,G,G,λ_ _=>False,λ_=>False,λ_=>False⟩) (λ_ h=>h) (λb _ h=>h) hi hres (λi p hi=>by simp_all)
  intro l h1 h2
  obtain⟨x,hx⟩:=himp.2.2.2 l h1 (by rw[himp.2.1];exact h2)
  have h3:=hnw.2 l x hx
  refine⟨?_,h3.2.2⟩
  cases hq:E.r l with
  |none=>rfl
  |some p=>grind
 let E':Env:=⟨λl=>if nx<=l/\l<nx+bs.length then bs[l-nx]? else E.r l,λk=>E.F k\/G k,λk=>E.G k\/G k,E.T,E.Z,E.n⟩
 have hsz:=hpast.size
 have hws:=hR.ok.size
 have hold:∀l p,E.r l=ς p->E'.r l=ς p:=λl p h=>by
  grind
 have hnew:∀l b c,E'.r l=ς (b,c)->(nx<=l/\l<nx+bs.length/\bs[l-nx]?=ς (b,c))\/(E.r l=ς (b,c)):=by
  intro l b c h
  have h:(if nx<=l/\l<nx+bs.length then bs[l-nx]? else E.r l)=ς (b,c):=h
  split at h
  .simp_all
  exact .inr h
 have hheap:∀k,k<w.heap.size->k≠b->w'.heap[k]?=w.heap[k]?:=λk hk hne=>hpast.block k hk hne
 have hHb:∀(g:Bool) k,E.H g k->k≠b/\k<w.heap.size:=λg k hk=>⟨λe=>by subst e;cases g;exact hbF hk;exact hbF (hR.ok.gf _ hk),hR.ok.hb hk⟩
 have hk:gb E w E' w':=⟨hold,λg k h=>by cases g<;>exact Or.inl h,λg k h=>hheap k (hHb g k h).2 (hHb g k h).1,λl k h=>⟨h,hheap k (hR.ok.sf.tb l k h).1.1 (λe=>by subst e;exact(hR.ok.sf.tb l k h).2.2.1 o c0 hr)⟩,λk h=>⟨h,.of_eq (hheap k (hR.ok.sf.zb k h).1.2.1 (λe=>by subst e;exact(hR.ok.sf.zb k h).2.2.1 o c0 hr))⟩,rfl⟩
 have ok':cF cx E' w':=by
  refine⟨λk h=>?_,λk h=>?_,λk h=>?_,λl k c h=>?_,λl l' k c c' h h'=>?_,by rw[hpast.os];exact hR.ok.os,by rw[hpast.tape];exact hR.ok.tape,by rw[hpast.output];exact hR.ok.output,by omega,λk h hW=>?_,λl p hv h=>?_,λk h=>?_,
   λk h h'=>h.elim (λh=>(hR.ok.gc k h h').of_eq (hheap k (hHb η k h).2 (hHb η k h).1)) (λh=>(hG2 k h).2.2),
   hR.ok.sf.turn hr rfl rfl (λk h=>h.elim .inl (λh=>.inr (hG2 k h).1)) (λl k c h=>by
    grind) hsz hheap⟩
  .rcases h with h|h
   .have:=hR.ok.fb k h;omega
   simp_all
  .rcases h with h|h
   .exact .inl (hR.ok.gf k h)
   grind
  .rcases h with h|h
   .exact hR.ok.gn k h
   grind
  .rcases hnew l k c h with⟨_,_,h⟩|h
   .have:=yE hres _ (Zk h);exact⟨by omega,.inl (.inl oaa)⟩
   have:=hR.ok.rb l k c h;exact⟨by omega,this.2⟩
  .rcases hnew l k c h with⟨h1,h2,h3⟩|h3<;>rcases hnew l' k c' h' with⟨k1,k2,k3⟩|k3
   .have hi:l-nx<bs.length:=by omega
    have hj:l'-nx<bs.length:=by omega
    rcases aav (l-nx) (l'-nx) with hlt|heq|hlt
    .exfalso
     have:=ZJ.1 hnd (l-nx) (l'-nx) (by simp_all) (by simp_all) hlt
     simp_all
    .omega
    exfalso
    have:=ZJ.1 hnd (l'-nx) (l-nx) (by simp_all) (by simp_all) hlt
    simp_all
   .have h5:=hbs _ (Zk h3);have h6:=hR.ok.rb l' k c' k3;omega
   .have h5:=hbs _ (Zk k3);have h6:=hR.ok.rb l k c h3;omega
   exact hR.ok.inj l l' k c c' h3 k3
  .have hkb:k≠b:=λe=>by
    subst e
    rcases hR.ok.rw hr with h'|h'
    .omega
    simp_all
   rw[hheap k oaa hkb];exact hR.ok.block k h hW
  .rcases hnew l p.1 p.2 h with⟨h1,h2,_⟩|h
   .rw[mn (hlab l h1 h2).2] at hv;cases hv
   exact hR.ok.pin l p hv h
  rcases h with h|h
  .exact hR.ok.ff k h
  grind
 have himp:=vQ (E:=E') (G:=G) (base:=w.heap.size) (λb h=>.inr h) (λb hb hng hF=>by
  rcases hF with h|h
  .have:=hR.ok.fb b h;omega
  simp_all) hi hres (λi p hi=>by
   have:i<bs.length:=(v0.1 hi).1
   show(if nx<=nx+i/\nx+i<nx+bs.length then bs[nx+i-nx]? else E.r (nx+i))=ς p
   simp_all)
 refine⟨E',ok',λl p h=>?_,λl x hl=>?_,λk=>?_,hR.dfr,by simpa [Act.put] using hR.size,λl k h=>Zy (hR.td l k h) hnw.1⟩
 .rcases hnew l p.1 p.2 h with⟨h1,h2,_⟩|h
  .obtain⟨x,hx⟩:=himp.2.2.2 l h1 (by rw[himp.2.1];exact h2);grind
  grind
 .rcases zE hl with h|h
  .exact(himp.2.2.1 l x h).1
  by_cases hlo:o=l
  .subst hlo
   rw[bM] at h;cases h
   refine xm hfy (λk c h=>?_) (λg k h=>?_) (λ_ _ _=>rfl) (λ_ _ _=>rfl) (λk c h hn hh=>?_) hY
   .simp[E1] at h;grind
   .cases g with
    |false=>
     rcases h with h|h
     .rcases h with h|⟨l,x,c,h1,h2⟩
      .exact .inl h
      subst hnob;cases h1
     exact .inr h
    |true=>exact .inr h
   simp[E1] at h;grind
  rw[a9 _ _ hlo] at h
  exact fy hk (λk c h'=>hheap k (hR.ok.rb _ _ _ h').1 (λe=>hlo (by subst e;exact hR.ok.inj _ _ _ _ _ hr h'))) (λk c h' hn hh=>by
   rcases hh with hh|hh
   .exact hn hh
   have:=hG2 k hh;have:=(hR.ok.rb _ _ _ h').1;omega) (hR.obs l x h)
 rw[eK (by rw[hR.size];exact bO hN)]
 by_cases hdk:d=k
 .subst hdk;rw[cG,if_pos rfl];exact himp.1
 rw[b7 _ _ hdk,if_neg hdk];exact iw hk (hR.sl k)
theorem cw{d:Tmp}{ob:Laa}{o:Nat}{x0 x1:Ob}{eqs:Lac}{nw:Laa}(hF:FnW P f x1 ts' y res)(ht:ni sl args=ς ts:=by exact rfl)(ho:go ob o=ς x0:=by exact rfl)(hl:x0.loc=x1:=by exact rfl)(hfx:x0.free=true:=by exact rfl)(hfy:y.free=true:=by exact rfl)(ha:wG [] o ts=ς (ts',eqs):=by exact rfl)(he:Eqs eqs:=by repeat (first|exact θ|refine⟨by first|rfl|exact lm _|simp,?_⟩))(hi:xi nx res=ς (out,nw,n):=by exact rfl)(hw:zL nx nw n=true:=by exact rfl)(hN:nlt d N=true:=by exact rfl)(hob:apO nw ((o,y)::ob)=ς ob':=by exact rfl):
 AWO P N ⟨ς d,.call ⟨.value (.func f),args.toArray,tys⟩,ty,ps,af,gd⟩ ⟨sl,ob,nx⟩ ⟨(d,out)::sl,ob',n⟩:=by
 subst hl
 rw[mY hob]
 exact Vs hF ht ho hfx hfy ha he hi hw hN
theorem QK{res':List RV}{vs:List V}{ls:List Nat}{y':Ob}(h:it P s rs vs:=by repeat' (first|exact .nil|apply it.cons|exact .tmp rfl|exact .cell rfl rfl rfl|exact .cell1 rfl rfl))(he:uu s.ob vs=ς (res',ls):=by exact rfl)(hn:gm ls=true:=by exact rfl)(hr:res'=res:=by first|rfl|simp)(hy:go s.ob 200=ς y':=by exact rfl)(hyy:y'=y:=by first|rfl|simp):pP N P rs res y .ret s:=by
 subst hr;subst hyy;exact⟨s,jv s,⟨vs,ls,h,he,hn⟩,hy⟩
theorem QI{res':List RV}{vs:List V}{ls:List Nat}{y':Ob}(h:it P s rs vs:=by repeat' (first|exact .nil|apply it.cons|exact .tmp rfl|exact .cell rfl rfl rfl|exact .cell1 rfl rfl))(he:uu s.ob vs=ς (res',ls):=by exact rfl)(hn:gm ls=true:=by exact rfl)(hr:res'=res:=by first|rfl|simp)(hy:go s.ob 200=ς y':=by exact rfl)(hyy:y'=y:=by first|rfl|simp):pP N P rs res y .normal s:=by
 subst hr;subst hyy;exact⟨s,jv s,⟨vs,ls,h,he,hn⟩,hy⟩
structure FnN(P:Program)(f:FuncId)(args:List AV)(ty:TypeId)(xs:List D):Prop where
 enters:∀(vs:Array Value) (w:World),(callFunc f vs).run P w= .ok (.enter f vs) w
 calls:∀(F:Nat->Prop) (w:World) (vals:Array Value),(∀b,F b->b<w.heap.size)->TabsIn w->AR w F args vals.toList->
  Calls P f vals w λe w'=>∃(b:Nat) (arr:Array Value) (G:Nat->Prop),e= .returned (.pointer (ς ⟨b,0,ξ⟩))/\zk w w' (λ_=>False)/\(∀k,G k->w.heap.size<=k/\k<w'.heap.size/\eJ w' k)/\w.heap.size<=b/\b<w'.heap.size/\¬G b/\w'.heap[b]?=ς (.cells arr ty (0,0))/\DV w' (λk=>F k\/G k) xs arr.toList
def By:C->Option D
 | .d (.b _) x=>ς x
 | .nil=>ς (.l [])
 |_=>ξ
def xb:List C->Option (List D)
 |[]=>ς []
 |c::cs=>match By c,xb cs with
  |some x,ς xs=>ς (x::xs)
  |_,_=>ξ
theorem Qn{cx:Cx}(ok:cF cx E w){c:C}{x:D}(h:By c=ς x)(hc:cvC E w c u):rdD w E.F x u:=by
 cases c with
 |d g y=>cases g with
  |b g=>simp[By] at h;subst h;exact mX (g':=η) ok hc (by simp)
  |s n=>simp[By] at h
  |t n=>simp[By] at h
 |nil=>
  simp[By] at h;subst h
  have hu:u= .slice ξ 0 0:=hc
  subst hu
  rw[rdD];simp_all
 |_=>simp[By] at h
theorem DF{cx:Cx}{E:Env}{w:World}(ok:cF cx E w):∀{cs:List C} {xs:List D} {us:Lae},xb cs=ς xs->CV E w cs us->DV w E.F xs us
 |[],xs,[],h,_=>by simp[xb] at h;subst h;trivial
 |[],_,_::_,_,hc=>hc.elim
 |c::cs,xs,[],h,hc=>hc.elim
 |c::cs,xs,u::us,h,hc=>by
  simp only[xb] at h
  split at h
  .rename_i x xs' h1 h2
   simp at h;subst h
   exact⟨Qn ok h1 hc.1,DF ok h2 hc.2⟩
  cases h
theorem ES{w w':World}{F F':Nat->Prop}(hw:∀b,F b->w'.heap[b]?=w.heap[b]?)(hF:∀b,F b->F' b):∀{xs:List D} {us:Lae},DV w F xs us->DV w' F' xs us
 |[],[],_=>trivial
 |x::xs,u::us,h=>⟨bP hw hF x u h.1,ES hw hF h.2⟩
 |[],_::_,h=>h.elim
 |_::_,[],h=>h.elim
def Ln(N:Nat)(rs:List ResultVar)(ty:TypeId)(xs:List D):Exit->St->Prop
 | .ret,s| .normal,s=>∃s' k o cs,cB N s s'/\rs=[.tmp k]/\gt s'.sl k= .v (.c (.p o 0))/\go s'.ob o=ς (.var ty cs)/\xb cs=ς xs/\rsv o=η
 |_,_=>False
instance {N:Nat} {rs:List ResultVar} {ty:TypeId} {xs:List D}:Clo N (Ln N rs ty xs):=⟨λe s m hw h=>by
 cases e<;>simp only[Ln] at h ⊢<;>first|exact h|(obtain⟨s',k,o,cs,h1,h2⟩:=h;exact⟨s',k,o,cs,aK hw h1,h2⟩)⟩
theorem QJ{xs xs':List D}{o:Nat}(h1:rs=[.tmp k]:=by exact rfl)(h2:gt s.sl k= .v (.c (.p o 0)):=by exact rfl)(h3:go s.ob o=ς (.var ty cs):=by exact rfl)(h4:xb cs=ς xs':=by exact rfl)(h5:rsv o=false:=by exact rfl)(h6:xs'=xs:=by exact rfl):Ln N rs ty xs .ret s:=by
 subst h6;exact⟨s,k,o,cs,jv s,h1,h2,h3,h4,h5⟩
theorem Xz{fn:Func}{c:Code}{args:List AV}{xs:List D}{sl0:Lab}(hf:P.funcs[f]?=ς fn)(hb:fn.body=ς c:=by exact rfl)(hnm:(fn.name== "runtime.NumGoroutine")=false:=by kernel_rfl)(hN:fn.ntmps=N)(hrs:fn.results.toList=rs:=by exact rfl)(ha:Zw args.length N=true:=by exact rfl)(hs:E6 0 args=ς sl0:=by exact rfl)(h:AWC P N c ⟨sl0,[],0⟩ (Ln N rs ty xs)):FnN P f args ty xs:=by
 rw[AF hs] at h
 refine⟨λvs w=>by simp[callFunc,hf,hb];simp_all,λF w vals hF hT hA=>?_⟩
 subst hrs
 refine calls_of_wp hf hb ?_
 let E:Env:={r:=λ_=>ξ,F:=F,G:=λ_=>False}
 obtain⟨h1,h2⟩:=xL (E:=E) (F:=F) rfl 0 hA
 have hle:args.length<=N:=ZK ha
 have hsz:vals.size=args.length:=by simpa using h1
 have hR:Rel N ⟨w,λ_=>False,λ_=>ξ,F,λ_=>False,⟨hT,λ_ _ h=>h⟩,λ_=>False⟩ E ⟨pT 0 args,[],0⟩ {tmps:=vals++Zv (fn.ntmps-vals.size) undef,defers:=[]} w:=by
  refine⟨⟨hF,λ_ h=>h.elim,λ_ h=>h.elim,(λ_ _ _ h=>by cases h),(λ_ _ _ _ _ h=>by cases h),rfl,rfl,rfl,Zu _,λ_ _ _=>rfl,(λ_ _ _ h=>by cases h),λ_ h=>.inl h,λb h h'=>absurd (hF b h) (aak.2 (h'.resolve_right λh=>h.2.1)),⟨λ_ _ h=>h.elim,λ_ _ _ h=>h.elim,λ_ h=>h.elim,λ_ h=>h.elim,λ_ h=>h.elim⟩⟩,(λ_ _ h=>by cases h),(λ_ _ h=>by cases h),λk=>?_,rfl,by simp;omega,λ_ _ h=>h.elim⟩
  by_cases hk:k<args.length
  .obtain⟨u,h3,h4⟩:=(h2 k).1 ⟨ZA _,by omega⟩
   have:(vals++Zv (fn.ntmps-vals.size) undef).getD k undef=u:=by
    have h5:vals[k]?=ς u:=by simpa using h3
    have h6:(vals++Zv (fn.ntmps-vals.size) undef)[k]?=ς u:=by rw[aao oaa];exact h5
    simp[h6]
   simp_all
  have:=(h2 k).2 oaa
  show cvT E w (gt (pT 0 args) k) _
  rw[this];trivial
 refine wp_mono (h _ E _ w hR) ?_
 rintro e a' w' ⟨E',s',hR',hq⟩
 have fin:(∃s'' k o cs,cB N s' s''/\fn.results.toList=[.tmp k]/\gt s''.sl k= .v (.c (.p o 0))/\go s''.ob o=ς (.var ty cs)/\xb cs=ς xs/\rsv o=η)->
  a'.defers=[]/\∃v,(results fn a'.tmps).run P w'= .ok v w'/\∃(b:Nat) (arr:Array Value) (G:Nat->Prop),Ending.returned v= .returned (.pointer (ς ⟨b,0,ξ⟩))/\zk w w' (λ_=>False)/\(∀k,G k->w.heap.size<=k/\k<w'.heap.size/\eJ w' k)/\w.heap.size<=b/\b<w'.heap.size/\¬G b/\w'.heap[b]?=ς (.cells arr ty (0,0))/\DV w' (λk=>F k\/G k) xs arr.toList:=by
  rintro⟨s'',k,o,cs,hw,hr1,hg,ho,hd,hv⟩
  obtain⟨E'',hR''⟩:=hw _ _ _ _ hR'
  have ok:=hR''.ok
  have hsl:=hR''.sl k
  rw[hg] at hsl
  obtain⟨b,cc,hrb,hu⟩:=hsl
  obtain⟨b',c',arr,k1,k2,k3,k4⟩:=hR''.obs o _ ho
  rw[hrb] at k1;cases k1
  have hfr:fn.results= #[.tmp k]:=by apply aaq;simpa using hr1
  refine⟨hR''.dfr,.pointer (ς ⟨b,0,ξ⟩),?_,b,arr,λk=>E''.F k/\w.heap.size<=k,rfl,⟨ok.os,ok.tape,ok.output,ok.size,ok.block⟩,λk hk=>⟨hk.2,ok.fb k hk.1,ok.gc k hk.1 (.inl hk.2)⟩,?_,(ok.rb o b cc hrb).1,λh=>k4 h.1,k2,?_⟩
  .have hres:results fn a'.tmps=(fn.results.mapM (jC a'.tmps))>>= λvs=>pure (if h:vs.size=1 then vs[0] else .tuple vs):=rfl
   rw[hres,hfr]
   simp[jC,hu]
  .rcases(ok.rb o b cc hrb).2 with h|h
   .exact h.resolve_right λh=>h.1
   simp_all
  exact ES (λ_ _=>rfl) (λk hk=>(ok.ff k hk).elim .inl (λh=>.inr ⟨hk,h⟩)) (DF ok hd k3)
 cases e with
 |normal=>exact fin hq
 |ret=>exact fin hq
 |_=>exact hq.elim
theorem Vi{d:Tmp}{ty0:TypeId}{avs:List AV}{eqs:Lac}{xs:List D}(hl:ts.length=args.length)(ha:EE [] ts=ς (avs,eqs))(hF:FnN P f avs ty xs)(he:Eqs eqs):
 AWN P ⟨ς d,.call ⟨.value (.func f),args.toArray,tys⟩,ty0,ps,af,gd⟩ (args.zip ts) [] (.v (.c (.p nx 0))) [(nx,.var ty (xs.map (ldC η)))]:=by
 intro cx E a w ok hn hb hfr
 have hA:=Jk ok (nob:=[]) (λl x h=>by cases h) ha he hl hn
 have hcF:∀b,kL E [] b->E.F b:=by
  rintro b (h|⟨l,x,c,h1,h2⟩)
  .exact h
  cases h1
 have hc:=hF.calls (kL E []) w (args.map a.eval).toArray (λb h=>ok.fb b (hcF b h)) ok.tabs oaa
 have hent:=hF.enters (args.map a.eval).toArray w
 unfold Oper.wp
 have hrun:(execOp a.eval ⟨ς d,.call ⟨.value (.func f),args.toArray,tys⟩,ty0,ps,af,gd⟩).run P w= .ok (.enter f (args.map a.eval).toArray) w:=by
  simp only[execOp,resolve,Act.eval,Deferred.ofValue,Sem.run_bind,Sem.run_pure,Result.andThen_ok,invoke]
  simpa using hent
 rw[hrun,Oper.upon_enter]
 refine hc.mono ?_
 rintro e w' ⟨b,arr,G,rfl,hp,hG,hb1,hb2,hbG,hh,hD⟩
 obtain⟨hl0,hrv⟩:=hfr nx (.var ty (xs.map (ldC η))) (List.mem_singleton.2 rfl)
 obtain⟨ok',ext⟩:=zu (nx:=nx) (bs:=[(b,0)]) ok hp hG (by simp_all) (by simp) (λl h1 h2=>by
  grind)
 have hr:(E.after nx [(b,0)] G).r nx=ς (b,0):=by simp[Env.after]
 refine⟨.pointer (ς ⟨b,0,ξ⟩),E.after nx [(b,0)] G,rfl,ok',ext,⟨b,0,hr,rfl⟩,λl ob hm=>?_,λl x hx=>?_⟩
 .simp at hm;obtain⟨rfl,rfl⟩:=hm
  refine⟨b,0,arr,hr,hh,?_,?_⟩
  .exact PE (E:=E.after l [(b,0)] G) (F:=λk=>E.F k\/G k) rfl (ES (λ_ _=>rfl) (λk hk=>hk.elim (λh=>.inl (hcF k h)) .inr) hD)
  rintro(h|h)
  .have:=ok.fb b h;omega
  simp_all
 simp only[Env.after] at hx
 grind
theorem cn{d:Tmp}{ty0:TypeId}{ob:Laa}{avs:List AV}{eqs:Lac}{xs:List D}(hF:FnN P f avs ty xs)(ht:ni sl args=ς ts)(ha:EE [] ts=ς (avs,eqs))(he:Eqs eqs)(hc:ldO η xs=ς cs)(hN:nlt d N=ζ)(hq:nxt nx=ς nx'):
 NS P N ⟨ς d,.call ⟨.value (.func f),args.toArray,tys⟩,ty0,ps,af,gd⟩ ⟨sl,ob,nx⟩ ⟨(d,.v (.c (.p nx 0)))::sl,(nx,.var ty cs)::ob,nx'⟩ ⟨d,args.zip ts,[],.v (.c (.p nx 0)),[(nx,.var ty cs)]⟩:=by
 obtain⟨h1,h2⟩:=nN ht
 rw[FA hc]
 exact c9 (st:=⟨sl,ob,nx⟩) (Vi h1 ha hF he) rfl hN h2 trivial (ly hq)
def EZ(R:Nat->Prop):Env:={r:=λ_=>ξ,F:=λ_=>False,G:=λ_=>False,Z:=R}
structure Wn(w w':World)(R:Nat->Prop):Prop where
 os:w'.os=w.os
 tape:w'.tape=w.tape
 output:w'.output=w.output
 size:w.heap.size<=w'.heap.size
 block:∀b,b<w.heap.size->¬R b->w'.heap[b]?=w.heap[b]?
 sim:∀b,R b->oH w w' b/\eJ w' b
structure FnM(P:Program)(f:FuncId)(args:List T)(n:Int):Prop where
 enters:∀(vs:Array Value) (w:World),(callFunc f vs).run P w= .ok (.enter f vs) w
 calls:∀(R:Nat->Prop) (w:World) (vals:Array Value),(∀b,R b->b<w.heap.size/\eJ w b)->TabsIn w->(∀k∈nT,¬R k)->TV (EZ R) w args vals.toList->
  Calls P f vals w λe w'=>e= .returned (.int .i64 n)/\Wn w w' R
section
variable{P:Program}{N:Nat}{d:Tmp}{x y:Operand}{ty:TypeId}{ps:String}{af:Array Edge}{gd:Option (Nat×Bool)}{sl:Lab}{ob:Laa}{nx:Nat}{α:Type}{enc:α->List D}
theorem Vn{xs:Lad}{by_:Nat}[ht:da P t e sz by_]:AWN P ⟨ς d,.call ⟨.builtin .len,#[x],#[t]⟩,ty,ps,af,gd⟩ [(x,.v (.c (.z (.l xs))))] [] (tI xs.length) []:=
 cf λE ac w hn _=>by
  have h:=hn x _ (.head _)
  simp only[cvT,cvV,cvC,rsD] at h
  obtain⟨A,c,hu,_⟩:=h
  exact⟨_,by simp[execOp,resolve,invoke,builtin,hu,Builtin.len_,underlying,ht.u,goInt];rfl,by rfl⟩
theorem Oh{f off ft:Nat}{e:List D}[h:TyF P t f off ft]:AWN P ⟨ς d,.fieldAddr t x f,ty,ps,af,gd⟩ [(x,.v (.c (.zq e j)))] [] (.v (.c (.zq e (j+off)))) []:=
 cf λE a w hn _=>by
  obtain⟨b,k,hu,hb,hl⟩:=hn x _ (.head _)
  exact⟨_,by simp[execOp,hu,qV];rfl,b,k,by simp_all,hb,hl⟩
theorem RG{e:List D}{xd:D}[ht:g8 P t](hc:e[j]?=ς xd):AWN P ⟨ς d,.load t x,ty,ps,af,gd⟩ [(x,.v (.c (.zq e j)))] [] (.v (.c (.z xd))) []:=
 cf λE a w hn _=>by
  obtain⟨b,k,hu,hb,hl⟩:=hn x _ (.head _)
  obtain⟨u,h1,h2⟩:=KD hl hc
  exact⟨u,by simp_all[execOp,lx],h2⟩
theorem II{w:World}{F:Nat->Prop}:∀{e:List D} {b k:Nat},rsL w F e b k->∃us:Lae,us.length=e.length/\(∀(j:Nat) (u:Value),us[j]?=ς u->w.cell? ⟨b,k+j,ξ⟩=ς u)/\∀(j:Nat) (xd:D),e[j]?=ς xd->∃u,us[j]?=ς u/\rsD w F xd u
 |[],b,k,_=>⟨[],rfl,by simp,by simp⟩
 |x::e,b,k,h=>by
  rw[rsL] at h
  obtain⟨⟨u,hc,hu⟩,h⟩:=h
  obtain⟨us,h1,h2,h3⟩:=II h
  refine⟨u::us,by simp[h1],λj v hj=>?_,λj xd hj=>?_⟩
  .grind
  grind
theorem GM{E:Env}{w:World}:∀{e:List D} {us:Lae},us.length=e.length->(∀(j:Nat) (xd:D),e[j]?=ς xd->∃u,us[j]?=ς u/\rsD w E.Z xd u)->CV E w (e.map C.z) us
 |[],[],_,_=>trivial
 |x::e,u::us,hl,h=>by
  obtain⟨v,h1,h2⟩:=h 0 x rfl
  simp at h1;subst h1
  exact⟨h2,GM (by simpa using hl) λj xd hj=>by obtain⟨v,h3,h4⟩:=h (j+1) xd (by simpa using hj);exact⟨v,by simpa using h3,h4⟩⟩
 |[],_::_,hl,_=>by simp at hl
 |_::_,[],hl,_=>by simp at hl
theorem Cq{w:World}{F:Nat->Prop}:∀{e:List D} {b k:Nat} (_:rsL w F e b k) (j n:Nat),rsL w F ((e.drop j).take n) b (k+j)
 |[],b,k,_,j,n=>by simp[rsL]
 |x::e,b,k,h,0,0=>by simp[rsL]
 |x::e,b,k,h,0,n+1=>by
  rw[rsL] at h
  have:=Cq h.2 0 n
  simp_all[aaw,ZT,ZX,rsL]
 |x::e,b,k,h,j+1,n=>by
  rw[rsL] at h
  have:=Cq h.2 j n
  grind
def zO:List D->Option (List C)
 |[]=>ς []
 |x::xs=>match zO xs with|some r=>ς (.z x::r)|none=>ξ
theorem W9:∀{xs:List D} {cs:List C},zO xs=ς cs->cs=xs.map C.z
 |[],cs,h=>by simp[zO] at h;subst h;rfl
 |x::xs,cs,h=>by
  simp only[zO] at h
  split at h
  .rename_i r h1;simp at h;subst h;rw[W9 h1];rfl
  cases h
def zPO(j n:Nat)(e:List D):Option (List C):=match yw j n e with|some r=>zO r|none=>ξ
theorem FT{e:List D}[ht:fm P t n](hj:zPO j n e=ς cs):
 AWN P ⟨ς d,.load t x,ty,ps,af,gd⟩ [(x,.v (.c (.zq e j)))] [] (.v (.agg cs)) []:=
 cf λE a w hn _=>by
  simp only[zPO] at hj
  split at hj
  .rename_i r h1
   obtain⟨rfl,hle⟩:=yx h1
   rw[W9 hj]
   obtain⟨b,k,hu,hb,hl⟩:=hn x _ (.head _)
   obtain⟨us,k1,k2,k3⟩:=II (Cq hl j n)
   have hlen:us.length=n:=by rw[k1];simp;omega
   exact⟨.agg us.toArray,by simp[execOp,hu,qk hlen k2],us.toArray,rfl,by grind[GM]⟩
  cases hj
theorem lz{xs:List α}{by_:Nat}[da P t e sz by_](hx:opT sl x= .v (.c (.z (.l (xs.map enc)))))(hN:nlt d N=ζ):
 NS0 P N ⟨ς d,.call ⟨.builtin .len,#[x],#[t]⟩,ty,ps,af,gd⟩ sl ob nx d (tI xs.length) ⟨d,[(x,.v (.c (.z (.l (xs.map enc)))))],[],tI xs.length,[]⟩:=by
 have:=c9 (st:=⟨sl,ob,nx⟩) (Vn (P:=P) (d:=d) (ty:=ty) (ps:=ps) (af:=af) (gd:=gd) (t:=t) (xs:=xs.map enc) (x:=x)) rfl hN ⟨hx,θ⟩ trivial rfl
 simp_all
theorem fz{f off ft:Nat}{e:List D}{j':Nat}[TyF P t f off ft](hx:opT sl x= .v (.c (.zq e j)))(hN:nlt d N=ζ)(hk:j+off=j'):NS0 P N ⟨ς d,.fieldAddr t x f,ty,ps,af,gd⟩ sl ob nx d (.v (.c (.zq e j'))) ⟨d,[(x,.v (.c (.zq e j)))],[],.v (.c (.zq e j')),[]⟩:=by
 subst hk;exact c9 (st:=⟨sl,ob,nx⟩) Oh rfl hN ⟨hx,θ⟩ trivial rfl
theorem oz{e:List D}{xd:D}[g8 P t](hx:opT sl x= .v (.c (.zq e j)))(hN:nlt d N=ζ)(hc:e[j]?=ς xd):
 NS0 P N ⟨ς d,.load t x,ty,ps,af,gd⟩ sl ob nx d (.v (.c (.z xd))) ⟨d,[(x,.v (.c (.zq e j)))],[],.v (.c (.z xd)),[]⟩:=c9 (st:=⟨sl,ob,nx⟩) (RG hc) rfl hN ⟨hx,θ⟩ trivial rfl
theorem oza{e:List D}[fm P t n](hx:opT sl x= .v (.c (.zq e j)))(hN:nlt d N=ζ)(hc:zPO j n e=ς cs):
 NS0 P N ⟨ς d,.load t x,ty,ps,af,gd⟩ sl ob nx d (.v (.agg cs)) ⟨d,[(x,.v (.c (.zq e j)))],[],.v (.agg cs),[]⟩:=c9 (st:=⟨sl,ob,nx⟩) (FT hc) rfl hN ⟨hx,θ⟩ trivial rfl
def wE:D->C->Bool
 | .i k _,.d _ (.i k' _)=>k==k'
 | .b _,.d _ (.b _)=>ζ
 | .str _,.d _ (.str _)=>ζ
 |_,_=>η
theorem Ss{cx:Cx}(hR:Rel N cx E st a w)(hp:Wn w w' E.Z):Rel N cx E st a w':=by
 have hz:∀b,E.Z b->¬E.F b:=λb h=>(hR.ok.sf.zb b h).2.1
 have hHn:∀(g:Bool) b,E.H g b->¬E.Z b:=λg b h hb=>by cases g;exact hz b hb h;exact hz b hb (hR.ok.gf b h)
 have hrn:∀o b c,E.r o=ς (b,c)->¬E.Z b:=λo b c h hb=>(hR.ok.sf.zb b hb).2.2.1 o c h
 have htn:∀l b,E.T l b->¬E.Z b:=λl b h hb=>hR.ok.sf.tz h (hR.ok.sf.ze b hb)
 have hk:gb E w E w':=⟨λ_ _ h=>h,λ_ _ h=>h,λg b h=>hp.block b (hR.ok.hb h) (hHn g b h),λl b h=>⟨h,hp.block b (hR.ok.sf.tb l b h).1.1 (htn l b h)⟩,λb h=>⟨h,(hp.sim b h).1⟩,rfl⟩
 have hsz:=hp.size
 refine⟨⟨λb h=>by have:=hR.ok.fb b h;omega,hR.ok.gf,hR.ok.gn,λo b c h=>⟨by have:=(hR.ok.rb o b c h).1;omega,(hR.ok.rb o b c h).2⟩,hR.ok.inj,hp.os.trans hR.ok.os,hp.tape.trans hR.ok.tape,hp.output.trans hR.ok.output,by have:=hR.ok.size;omega,λb h hW=>?_,hR.ok.pin,hR.ok.ff,λb h h'=>(hR.ok.gc b h h').of_eq (hp.block b (hR.ok.fb b h) (hHn η b h)),?_⟩,hR.dom,λo x h=>?_,λk=>iw hk (hR.sl k),hR.dfr,hR.size,hR.td⟩
 .rw[hp.block b (by have:=hR.ok.size;omega) (λhz=>hW (hR.ok.sf.zb b hz).1.2.2)];exact hR.ok.block b h hW
 .refine⟨λl b h=>?_,hR.ok.sf.tt,λb h=>?_,λb h=>?_,hR.ok.sf.ze⟩
  .obtain⟨h1,h2,h3,h4⟩:=hR.ok.sf.tb l b h
   exact⟨⟨by omega,h1.2⟩,h2,h3,h4.of_eq (hp.block b h1.1 (htn l b h))⟩
  .obtain⟨h1,h2,h3,h4⟩:=hR.ok.sf.zc b h
   refine⟨⟨h1.1,by omega,h1.2.2⟩,h2,h3,?_⟩
   by_cases hb:E.Z b
   .exact(hp.sim b hb).2
   exact h4.of_eq (hp.block b h1.2.1 hb)
  refine(hR.ok.sf.zs b h).trans ?_
  by_cases hb:E.Z b
  .exact(hp.sim b hb).1
  exact .of_eq (hp.block b (hR.ok.sf.zc b h).1.2.1 hb)
 exact fy hk (λb c h'=>hp.block b (hR.ok.rb o b c h').1 (hrn o b c h')) (λ_ _ _ h=>h) (hR.obs o x h)
theorem zr{arr:Array Value}{ty':TypeId}{fz:Nat×Nat}(h:w.heap[b]?=ς (.cells arr ty' fz)):w.cell? ⟨b,k,ξ⟩=arr[k]?:=by
 simp[World.cell?,h]
theorem Gv{vt:TypeId}{arr:Array Value}{fz:Nat×Nat}[ht:TyN P t 1](hu:u.cells= #[u])(h1:u.oneCell'=ζ)(hh:w.heap[b]?=ς (.cells arr vt fz))(hf:fz=(0,0)\/arr.size<=fz.1)(hk:k<arr.size):
 (Instr.storeAt t (.pointer (ς ⟨b,k,ξ⟩)) u).run P w= .ok () (w.setRow b (arr.setIfInBounds k u)):=by
 obtain⟨i,hi,hn⟩:=ht.n
 have hadd:(⟨b,k,ξ⟩:Addr).add 0=⟨b,k,ξ⟩:=by unfold Addr.add;split<;>simp_all
 have hcell:w.cell? ⟨b,k,ξ⟩=ς arr[k]:=by simp[World.cell?,hh,hk]
 have hfro:w.frozen? ⟨b,k,ξ⟩=false:=by
  rcases hf with rfl|hf
  .grind[World.frozen?]
  grind[World.frozen?]
 have hst:(store ((⟨b,k,ξ⟩:Addr).add 0) u).run P w= .ok () (w.setRow b (arr.setIfInBounds k u)):=by
  rw[hadd,run_store P w _ u _ h1,hcell]
  simp[hfro,setCell_eq_setRow w b k arr vt fz u hh]
 simp_all[Instr.storeAt,Instr.sureAddr,storeVar,d7,storeCells]
theorem stz{e:List D}{xd:D}{c:C}[ht:TyN P t 1](hx:opT sl x= .v (.c (.zq e j)))(hy:opT sl y= .v (.c c))(hc:e[j]?=ς xd)(hl:wE xd c=ζ):AWO P N ⟨ξ,.store t x y,ty,ps,af,gd⟩ ⟨sl,ob,nx⟩ ⟨sl,ob,nx⟩:=by
 intro cx E a w hR
 have h1:=hR.op x;rw[hx] at h1
 have h2:=hR.op y;rw[hy] at h2
 obtain⟨b,k,hu,hb,hrs⟩:=h1
 obtain⟨u,hcell,hud⟩:=KD hrs hc
 have hsim:KP u (a.eval y)/\(a.eval y).cells= #[a.eval y]/\(a.eval y).oneCell'=true:=by
  cases xd with
  |i kd n=>
   cases c with
   |d g z=>
    cases z with
    |i kd' n'=>
     simp[wE] at hl;subst hl
     have h2:a.eval y= .int kd n':=by simpa [rdD] using sv h2
     rw[rsD] at hud
     obtain⟨m,rfl⟩:=hud
     rw[h2];exact⟨.inr (.inl ⟨_,_,_,rfl,rfl⟩),rfl,rfl⟩
    |_=>grind[wE]
   |_=>grind[wE]
  |b n=>
   cases c with
   |d g z=>
    cases z with
    |b n'=>
     have h2:a.eval y= .bool n':=by simpa [rdD] using sv h2
     rw[rsD] at hud
     obtain⟨m,rfl⟩:=hud
     rw[h2];exact⟨.inr (.inr (.inl ⟨_,_,rfl,rfl⟩)),rfl,rfl⟩
    |_=>grind[wE]
   |_=>grind[wE]
  |str n=>
   cases c with
   |d g z=>
    cases z with
    |str n'=>
     have h2:a.eval y= .string n':=by simpa [rdD] using sv h2
     rw[rsD] at hud
     obtain⟨m,rfl⟩:=hud
     rw[h2];exact⟨.inr (.inr (.inr ⟨_,_,rfl,rfl⟩)),rfl,rfl⟩
    |_=>grind[wE]
   |_=>grind[wE]
  |l xs=>simp_all[wE]
  |k A n c'=>simp_all[wE]
 obtain⟨hs1,hs2,hs3⟩:=hsim
 obtain⟨arr,vt,fz,hh,hfz⟩:=(hR.ok.sf.zb b hb).2.2.2
 have hlt:k+j<arr.size:=by
  rw[zr hh] at hcell
  rcases ZF (k+j) arr.size with h|h
  .exact h
  simp_all
 have hrun:=Gv (P:=P) (t:=t) (b:=b) (k:=k+j) (u:=a.eval y) (w:=w) hs2 hs3 hh hfz hlt
 unfold Oper.wp
 simp only[execOp,hu,Sem.run_bind,hrun,Result.andThen_ok,Sem.run_pure,Oper.upon_skip,Act.put]
 refine⟨E,Ss hR ⟨rfl,rfl,rfl,by simp,λk' _ hk'=>c8 _ _ _ _ (λe=>hk' (e▸hb)),λb' hb'=>?_⟩⟩
 by_cases hbb:b'=b
 .subst hbb
  have hsr:(w.setRow b' (arr.setIfInBounds (k+j) (a.eval y))).heap[b']?=ς (.cells (arr.setIfInBounds (k+j) (a.eval y)) vt fz):=setRow_heap w b' arr _ vt fz hh
  refine⟨λi v hv=>?_,_,_,_,hsr,by simp_all⟩
  rw[zr hh] at hv hcell
  rw[zr hsr]
  by_cases hi:i=k+j
  .simp_all
  refine⟨v,?_,.inl rfl⟩
  grind
 exact⟨.of_eq (c8 _ _ _ _ hbb),(hR.ok.sf.zb b' hb').2.2.2.of_eq (c8 _ _ _ _ hbb)⟩
def Gr.hasR(l:Nat):Gr->Bool
 | .b _=>η
 | .s k| .t k=>d0 k l
def C.hasR(l:Nat):C->Bool
 | .r k _=>d0 k l
 | .d g _| .q g _ _=>g.hasR l
 |_=>η
def HE(l:Nat):List C->Bool
 |[]=>η
 |c::cs=>c.hasR l||HE l cs
def V.hasR(l:Nat):V->Bool
 | .c x=>x.hasR l
 | .agg xs=>HE l xs
def Fr(l:Nat):List V->Bool
 |[]=>η
 |v::vs=>v.hasR l||Fr l vs
def T.hasR(l:Nat):T->Bool
 | .v x=>x.hasR l
 | .tup xs=>Fr l xs
 | .any=>η
def ut(l:Nat):Lab->Option Lab
 |[]=>ς []
 |(k,t)::r=>match ut l r with
  |some r'=>match t.hasR l with
   |true=>ς ((k,.any)::r')
   |false=>ς ((k,t)::r')
  |none=>ξ
theorem Hl{l:Nat}:∀{sl sl':Lab},ut l sl=ς sl'->∀k,gt sl' k= .any\/(gt sl' k=gt sl k/\(gt sl k).hasR l=η)
 |[],sl',h,k=>by simp[ut] at h;subst h;exact .inl rfl
 |(j,t)::r,sl',h,k=>by
  simp only[ut] at h
  split at h
  .rename_i r' h1
   have ih:=Hl h1 k
   split at h
   .simp at h;subst h
    by_cases hj:j=k
    .subst hj;left;rw[cG]
    rw[b7 _ _ hj,b7 _ _ hj];exact ih
   rename_i ht
   simp at h;subst h
   by_cases hj:j=k
   .subst hj;right;rw[cG,cG];exact⟨rfl,ht⟩
   rw[b7 _ _ hj,b7 _ _ hj];exact ih
  cases h
structure EU(l:Nat)(E:Env)(w:World)(E':Env)(w':World):Prop where
 r:∀o x,E.r o=ς x->E'.r o=ς x
 H:∀(g:Bool) b,E.H g b->E'.H g b
 heap:∀(g:Bool) b,E.H g b->w'.heap[b]?=w.heap[b]?
 T:∀k b,k≠l->E.T k b->E'.T k b/\w'.heap[b]?=w.heap[b]?
 Z:∀b,E.Z b->E'.Z b/\oH w w' b
 n:E'.n=E.n
theorem EU.HH(x:EU l E w E' w'):∀{g:Gr},g.hasR l=η->∀b,E.H g b->E'.H g b
 | .b g,_,b,h=>x.H g b h
 | .s k,hl,b,h| .t k,hl,b,h=>(x.T k b (eR hl) h).1
theorem EU.hp(x:EU l E w E' w'):∀{g:Gr},g.hasR l=η->∀b,E.H g b->w'.heap[b]?=w.heap[b]?
 | .b g,_,b,h=>x.heap g b h
 | .s k,hl,b,h| .t k,hl,b,h=>(x.T k b (eR hl) h).2
end
def uz(ns:List Int):ByteArray:=ns.foldl (λr n=>r.push (UInt8.ofNat n.toNat)) ByteArray.empty
section
variable{P:Program}{N:Nat}{d:Tmp}{x y:Operand}{ty:TypeId}{ps:String}{af:Array Edge}{gd:Option (Nat×Bool)}{sl:Lab}{ob:Laa}{nx:Nat}
theorem MN{w:World}{F:Nat->Prop}{b:Nat}:∀{xs:List Int} {k:Nat},rdLL w F (xs.map eU8) b k->∀(j:Nat) (u:Value),(xs.map (Value.int .u8))[j]?=ς u->w.cell? ⟨b,k+j,ξ⟩=ς u
 |[],k,_,j,u,h=>by simp at h
 |n::xs,k,h,j,u,hj=>by
  rw[aac,rdLL] at h
  obtain⟨h1,h2⟩:=h
  simp only[eU8,rdL,rdD] at h1
  obtain⟨⟨v,hc,rfl⟩,_⟩:=h1
  cases j with
  |zero=>simp_all
  |succ j=>
   have:=MN h2 j u (by simp_all)
   rwa [show k+(eU8 n).length+j=k+(j+1) from by simp[eU8];omega] at this
theorem VH{F:Nat->Prop}{A:Option Addr}{xs:List Int}{c:Nat}(h:xs=[]\/∃b off,A=ς ⟨b,off,ξ⟩/\rdLL w F (xs.map eU8) b off):(Conv.bytesToString (.slice A xs.length c)).run P w= .ok (.string (uz xs)) w:=by
 cases A with
 |none=>
  rcases h with rfl|⟨b,off,h,_⟩
  .rfl
  cases h
 |some a=>
  refine run_bytesToString w a xs.length c xs ?_
  rcases h with rfl|⟨b,off,h,hr⟩
  .rfl
  cases h
  have:=jF (P:=P) (b:=b) (k:=off) (w:=w) (xs.map (Value.int .u8)) 0 #[] (λj u hj=>by rw[Zs];exact MN hr j u hj)
  simpa [loadCells] using this
theorem n_bts{e:TypeId}{by_:Nat}{xs:List Int}[hs:da P t e sz by_][he:TyU P e (.int .u8)][hd:TyU P t' .string]:
 AWN P ⟨ς d,.convert t t' x,ty,ps,af,gd⟩ [(x,.v (.c (.d g (.l (xs.map eU8)))))] [] (tS (uz xs)) []:=
 cf λE ac w hn _=>by
  have h:=hn x _ (.head _)
  replace h:=sv h;simp only[rdD] at h
  obtain⟨A,c,hu,_,h⟩:=h
  rw[ZU] at hu
  refine⟨.string (uz xs),?_,by rfl⟩
  have:=VH (P:=P) (w:=w) (F:=E.H g) (A:=A) (xs:=xs) (c:=c) (by
   grind)
  simp only[execOp,hu,Sem.run_bind,run_convert_bytes_string w t t' e A xs.length c hs.u he.h hd.h,this,Result.andThen_ok,Sem.run_pure]
theorem bt1{e:TypeId}{by_:Nat}{xs:List Int}[da P t e sz by_][TyU P e (.int .u8)][TyU P t' .string](hx:opT sl x= .v (.c (.d g (.l (xs.map eU8)))))(hN:nlt d N=ζ):
 NS0 P N ⟨ς d,.convert t t' x,ty,ps,af,gd⟩ sl ob nx d (tS (uz xs)) ⟨d,[(x,.v (.c (.d g (.l (xs.map eU8)))))],[],tS (uz xs),[]⟩:=c9 (st:=⟨sl,ob,nx⟩) n_bts rfl hN ⟨hx,θ⟩ trivial rfl
end
structure Nu(up:Laa)(E:Env)(w:World)(E':Env)(w':World):Prop where
 r:∀o x,E.r o=ς x->E'.r o=ς x
 F:∀b,E.F b->E'.F b
 G:∀b,E.G b->E'.G b
 F':∀b,E'.F b->E.F b\/w.heap.size<=b
 heap:∀b,b<w.heap.size->(∀l ob c,(l,ob)∈up->E.r l≠ς (b,c))->w'.heap[b]?=w.heap[b]?
 own:∀l ob b c,(l,ob)∈up->E.r l=ς (b,c)->¬E.F b
 T:∀l b,E.T l b->E'.T l b
 T':∀l b,E'.T l b->E.T l b\/(E.r l=ξ/\∃x,E'.r l=ς x)
 Z:E'.Z=E.Z
 n:E'.n=E.n
theorem Nu.of_ext(x:Ext E w E' w'):Nu [] E w E' w':=⟨x.r,x.F,x.G,x.F',λb h _=>x.heap b h,λ_ _ _ _ h=>(by cases h),x.T,x.T',x.Z,x.n⟩
theorem gb.of_extW{cx:Cx}{up:Laa}(ok:cF cx E w)(x:Nu up E w E' w'):gb E w E' w':=by
 have hF:∀b,E.F b->w'.heap[b]?=w.heap[b]?:=λb h=>x.heap b (ok.fb b h) (λl ob c hm hr=>x.own l ob b c hm hr h)
 refine⟨x.r,λg b h=>by cases g;exact x.F b h;exact x.G b h,λg b h=>by cases g;exact hF b h;exact hF b (ok.gf b h),λl b h=>⟨x.T l b h,x.heap b (ok.sf.tb l b h).1.1 (λl' ob c _ hr=>(ok.sf.tb l b h).2.2.1 l' c hr)⟩,
  λb h=>⟨by rw[x.Z];exact h,.of_eq (x.heap b (ok.sf.zb b h).1.2.1 (λl' ob c _ hr=>(ok.sf.zb b h).2.2.1 l' c hr))⟩,x.n⟩
def AWX(P:Program)(o:Oper)(needs:List (Operand×T))(nob:Laa)(out:T)(nw up:Laa):Prop:=
 ∀(cx:Cx) (E:Env) (a:Act) (w:World),cF cx E w->(∀x t,(x,t)∈needs->cvT E w t (a.eval x))->(∀l ob,(l,ob)∈nob->cg E w l ob)->
  (∀l ob,(l,ob)∈nw->E.r l=ξ/\rsv l=η)->
  o.wp P a w (λa' w'=>∃v E',a'=a.put o.dst v/\cF cx E' w'/\Nu up E w E' w'/\cvT E' w' out v/\(∀l ob,(l,ob)∈nw->cg E' w' l ob)/\(∀l ob,(l,ob)∈up->cg E' w' l ob)/\
   (∀l x,E'.r l=ς x->E.r l=ς x\/∃ob,(l,ob)∈nw)) (λ_ _ _=>False)
theorem JF{o:Oper}{needs:List (Operand×T)}{nw:Laa}(h:AWN P o needs nob out nw):AWX P o needs nob out nw []:=by
 intro cx E a w ok hn hb hf
 refine Oper.wp_mono ?_ (h cx E a w ok hn hb hf)
 rintro a' w' ⟨v,E',h1,h2,h3,h4,h5,h6⟩
 exact⟨v,E',h1,h2,.of_ext h3,h4,h5,(λ_ _ h=>by cases h),h6⟩
theorem ND{d:Tmp}{o:Nat}{x0:Ob}{eqs:Lac}{nw:Laa}(hF:FnW P f x0.loc ts' y res)(hlen:ts.length=args.length)(hfx:x0.free=ζ)(hfy:y.free=ζ)(ha:wG [] o ts=ς (ts',eqs))(he:Eqs eqs)(hi:xi nx res=ς (out,nw,n)):
 AWX P ⟨ς d,.call ⟨.value (.func f),args.toArray,tys⟩,ty,ps,af,gd⟩ (args.zip ts) [(o,x0)] out nw [(o,y)]:=by
 intro cx E a w ok hn hb hfr
 obtain⟨nob,hnob⟩:∃nob:Laa,nob=[]:=⟨_,rfl⟩
 rw[<-hnob] at ha
 have hob:∀l x,go nob l=ς x->cg E w l x:=λl x h=>by subst hnob;cases h
 have hx0:=hb o x0 (by simp)
 obtain⟨b,c0,hr,hbF⟩:∃b c0,E.r o=ς (b,c0)/\¬E.F b:=by
  cases x0 with
  |rown ty sz els g=>exact absurd hfx aaa
  |abs l y=>exact absurd hfx aaa
  |var t cs=>obtain⟨b,c,arr,h1,h2,h3,h4⟩:=hx0;simp_all
  |row t sz els g m=>
   obtain⟨b,c,arr,h1,h2,h3,h4,h5,h6,h7,h8,h9⟩:=hx0
   obtain⟨g,rfl,rfl⟩:=s5 hfx
   simp_all
 have hbC:¬kL E nob b:=by
  rintro(h|⟨l,x,c,h1,h2⟩)
  .exact hbF h
  subst hnob;cases h1
 have hFb:∀b,kL E nob b->b<w.heap.size:=by
  rintro b (h|⟨l,x,c,h1,h2⟩)
  .exact ok.fb b h
  exact(ok.rb l b c h2).1
 have hbs0:=(ok.rb o b c0 hr).1
 have hA:=B6 (a:=a) ok hob hr ha he hlen hn
 have hX:cg (E0 b c0 (kL E nob)) w 200 x0.loc:=by
  have hl:=Ek ok hfx hx0
  have hnoG:∀E2:Env,(∀k,E.F k->E2.F k)->E2.r 200=ς (b,c0)->¬E2.F b->cg E2 w 200 x0.loc:=by
   intro E2 h1 h2 h3
   cases x0 with
   |rown ty sz els g=>exact absurd hfx aaa
   |abs l y=>exact absurd hfx aaa
   |var t cs=>
    obtain⟨b',c',arr,k1,k2,k3,k4⟩:=hl
    rw[hr] at k1;cases k1
    refine⟨b,c0,arr,h2,k2,?_,h3⟩
    have key:∀(cs:List C) (us:Lae),cs.all C.free=ζ->CV E w (cs.map C.loc) us->CV E2 w (cs.map C.loc) us:=by
     intro cs
     induction cs with
     |nil=>
      intro us _ h
      cases us with
      |nil=>trivial
      |cons _ _=>exact h.elim
     |cons c cs ih=>
      intro us hf h
      simp only[ZR,hV] at hf
      cases us with
      |nil=>exact h.elim
      |cons u us=>
       refine⟨?_,ih us hf.2 h.2⟩
       have h5:=h.1
       cases c with
       |d g y=>cases g with
        |b g=>exact bP (λ_ _=>rfl) h1 _ _ h5
        |s n=>simp[C.free] at hf
        |t n=>simp[C.free] at hf
       |nil=>exact h5
       |fn f=>exact h5
       |any=>trivial
       |_=>simp[C.free] at hf
    exact key cs _ hfx k3
   |row t sz els g m=>
    obtain⟨g,rfl,rfl⟩:=s5 hfx
    obtain⟨b',c',arr,k1,k2,k3,k4,k5,k6,k7,k8,k9⟩:=hl
    rw[hr] at k1;cases k1
    exact⟨b,c0,arr,h2,k2,k3,k4,k5,k6,bS (λ_ _=>rfl) h1 rfl _ _ k7,λ_=>h3,(λh=>by cases h),θ⟩
  exact hnoG _ (λk hk=>.inl hk) (by simp[E0]) hbC
 have hc:=hF.calls (kL E nob) w (args.map a.eval).toArray b c0 hFb hbs0 ok.tabs (ok.ntab hr) hX oaa
 have hent:=hF.enters (args.map a.eval).toArray w
 unfold Oper.wp
 have hrun:(execOp a.eval ⟨ς d,.call ⟨.value (.func f),args.toArray,tys⟩,ty,ps,af,gd⟩).run P w= .ok (.enter f (args.map a.eval).toArray) w:=by
  simp only[execOp,resolve,Act.eval,Deferred.ofValue,Sem.run_bind,Sem.run_pure,Result.andThen_ok,invoke]
  simpa using hent
 rw[hrun,Oper.upon_enter]
 refine hc.mono ?_
 rintro e w' ⟨v,G,bs,rfl,hpast,hG2,hres,hnd,hY⟩
 have hbs:=yE hres
 have hlab:∀l,nx<=l->l<nx+bs.length->E.r l=ξ/\rsv l=false:=by
  have himp:=vQ (E:=⟨λo=>bs[o-nx]?,G,G,λ_ _=>False,λ_=>False,λ_=>False⟩) (λ_ h=>h) (λb _ h=>h) hi hres (λi p hi=>by simp_all)
  intro l h1 h2
  obtain⟨x,hx⟩:=himp.2.2.2 l h1 (by rw[himp.2.1];exact h2)
  exact hfr l x hx
 let E':Env:=⟨λl=>if nx<=l/\l<nx+bs.length then bs[l-nx]? else E.r l,λk=>E.F k\/G k,λk=>E.G k\/G k,E.T,E.Z,E.n⟩
 have hsz:=hpast.size
 have hws:=ok.size
 have hold:∀l p,E.r l=ς p->E'.r l=ς p:=λl p h=>by
  grind
 have hnew:∀l b c,E'.r l=ς (b,c)->(nx<=l/\l<nx+bs.length/\bs[l-nx]?=ς (b,c))\/(E.r l=ς (b,c)):=by
  intro l b c h
  have h:(if nx<=l/\l<nx+bs.length then bs[l-nx]? else E.r l)=ς (b,c):=h
  split at h
  .simp_all
  exact .inr h
 have hheap:∀k,k<w.heap.size->k≠b->w'.heap[k]?=w.heap[k]?:=λk hk hne=>hpast.block k hk hne
 have hHb:∀(g:Bool) k,E.H g k->k≠b/\k<w.heap.size:=λg k hk=>⟨λe=>by subst e;cases g;exact hbF hk;exact hbF (ok.gf _ hk),ok.hb hk⟩
 have ok':cF cx E' w':=by
  refine⟨λk h=>?_,λk h=>?_,λk h=>?_,λl k c h=>?_,λl l' k c c' h h'=>?_,by rw[hpast.os];exact ok.os,by rw[hpast.tape];exact ok.tape,by rw[hpast.output];exact ok.output,by omega,λk h hW=>?_,λl p hv h=>?_,λk h=>?_,
   λk h h'=>h.elim (λh=>(ok.gc k h h').of_eq (hheap k (hHb η k h).2 (hHb η k h).1)) (λh=>(hG2 k h).2.2),
   ok.sf.turn hr rfl rfl (λk h=>h.elim .inl (λh=>.inr (hG2 k h).1)) (λl k c h=>by
    grind) hsz hheap⟩
  .rcases h with h|h
   .have:=ok.fb k h;omega
   simp_all
  .rcases h with h|h
   .exact .inl (ok.gf k h)
   grind
  .rcases h with h|h
   .exact ok.gn k h
   grind
  .rcases hnew l k c h with⟨_,_,h⟩|h
   .have:=yE hres _ (Zk h);exact⟨by omega,.inl (.inl oaa)⟩
   have:=ok.rb l k c h;exact⟨by omega,this.2⟩
  .rcases hnew l k c h with⟨h1,h2,h3⟩|h3<;>rcases hnew l' k c' h' with⟨k1,k2,k3⟩|k3
   .have hi:l-nx<bs.length:=by omega
    have hj:l'-nx<bs.length:=by omega
    rcases aav (l-nx) (l'-nx) with hlt|heq|hlt
    .exfalso
     have:=ZJ.1 hnd (l-nx) (l'-nx) (by simp_all) (by simp_all) hlt
     simp_all
    .omega
    exfalso
    have:=ZJ.1 hnd (l'-nx) (l-nx) (by simp_all) (by simp_all) hlt
    simp_all
   .have h5:=hbs _ (Zk h3);have h6:=ok.rb l' k c' k3;omega
   .have h5:=hbs _ (Zk k3);have h6:=ok.rb l k c h3;omega
   exact ok.inj l l' k c c' h3 k3
  .have hkb:k≠b:=λe=>by
    subst e
    rcases ok.rw hr with h'|h'
    .omega
    simp_all
   rw[hheap k oaa hkb];exact ok.block k h hW
  .rcases hnew l p.1 p.2 h with⟨h1,h2,_⟩|h
   .rw[mn (hlab l h1 h2).2] at hv;cases hv
   exact ok.pin l p hv h
  rcases h with h|h
  .exact ok.ff k h
  grind
 have himp:=vQ (E:=E') (G:=G) (base:=w.heap.size) (λb h=>.inr h) (λb hb hng hF=>by
  rcases hF with h|h
  .have:=ok.fb b h;omega
  simp_all) hi hres (λi p hi=>by
   grind)
 refine⟨v,E',rfl,ok',⟨hold,λk h=>.inl h,λk h=>.inl h,λk h=>h.elim .inl (λh=>.inr (hG2 k h).1),λk hk hne=>hheap k hk (λe=>by simp_all),λl ob k c hm hl=>?_,λ_ _ h=>h,λ_ _ h=>.inl h,rfl,rfl⟩,himp.1,λl x hm=>(himp.2.2.1 l x hm).1,λl x hm=>?_,λl p h=>?_⟩
 .grind
 .simp at hm;obtain⟨rfl,rfl⟩:=hm
  refine xm hfy (λk c h=>?_) (λg k h=>?_) (λ_ _ _=>rfl) (λ_ _ _=>rfl) (λk c h hn hh=>?_) hY
  .simp[E1] at h;grind
  .cases g with
   |false=>
    rcases h with h|h
    .rcases h with h|⟨l,x,c,h1,h2⟩
     .exact .inl h
     subst hnob;cases h1
    exact .inr h
   |true=>exact .inr h
  simp[E1] at h;grind
 rcases hnew l p.1 p.2 h with⟨h1,h2,_⟩|h
 .obtain⟨x,hx⟩:=himp.2.2.2 l h1 (by rw[himp.2.1];exact h2);grind
 simp_all
def Ob.hasO(o:Nat):Ob->Bool
 | .var _ cs=>Ae o cs
 | .row _ _ _ _ _=>η
 | .rown _ _ _ _=>η
 | .abs _ _=>η
structure pO(up:Laa)(kl:Option Nat)(E:Env)(w:World)(E':Env)(w':World):Prop where
 r:∀o x,kl≠ς o->E.r o=ς x->E'.r o=ς x
 F:∀b,E.F b->E'.F b
 G:∀b,E.G b->E'.G b
 F':∀b,E'.F b->E.F b\/w.heap.size<=b\/∀l c,kl≠ς l->E.r l≠ς (b,c)
 heap:∀b,b<w.heap.size->(∀l ob c,(l,ob)∈up->E.r l≠ς (b,c))->(∀l c,kl=ς l->E.r l≠ς (b,c))->w'.heap[b]?=w.heap[b]?
 own:∀l ob b c,(l,ob)∈up->E.r l=ς (b,c)->¬E.F b
 ownk:∀l b c,kl=ς l->E.r l=ς (b,c)->¬E.F b
 T:∀l b,E.T l b->E'.T l b
 T':∀l b,E'.T l b->E.T l b\/(E.r l=ξ/\∃x,E'.r l=ς x)\/(kl=ς l/\∃x,E.r l=ς x)
 Z:E'.Z=E.Z
 n:E'.n=E.n
theorem pO.of_extW{up:Laa}(x:Nu up E w E' w'):pO up ξ E w E' w':=
 ⟨λo y _ h=>x.r o y h,x.F,x.G,(λb h=>(x.F' b h).elim .inl (λh=>.inr (.inl h))),λb h h' _=>x.heap b h h',x.own,(λ_ _ _ h=>by cases h),x.T,λl b h=>(x.T' l b h).imp id .inl,x.Z,x.n⟩
section
variable{cx:Cx}{E E':Env}{w w':World}{up:Laa}{kl:Option Nat}
theorem pO.hF(ok:cF cx E w)(x:pO up kl E w E' w')(b:Nat)(h:E.F b):w'.heap[b]?=w.heap[b]?:=
 x.heap b (ok.fb b h) (λl ob c hm hr=>x.own l ob b c hm hr h) (λl c hl hr=>x.ownk l b c hl hr h)
theorem pO.hT(ok:cF cx E w)(x:pO up kl E w E' w')(l b:Nat)(h:E.T l b):E'.T l b/\w'.heap[b]?=w.heap[b]?:=
 ⟨x.T l b h,x.heap b (ok.sf.tb l b h).1.1 (λl' ob c _ hr=>(ok.sf.tb l b h).2.2.1 l' c hr) (λl' c _ hr=>(ok.sf.tb l b h).2.2.1 l' c hr)⟩
theorem pO.hH(ok:cF cx E w)(x:pO up kl E w E' w'):∀(g:Gr) (b:Nat),E.H g b->w'.heap[b]?=w.heap[b]?
 | .b η,b,h=>x.hF ok b h
 | .b ζ,b,h=>x.hF ok b (ok.gf b h)
 | .s n,b,h| .t n,b,h=>(x.hT ok n b h).2
theorem pO.H(x:pO up kl E w E' w'):∀(g:Gr) (b:Nat),E.H g b->E'.H g b
 | .b η,b,h=>x.F b h
 | .b ζ,b,h=>x.G b h
 | .s n,b,h| .t n,b,h=>x.T n b h
theorem pO.hZ(ok:cF cx E w)(x:pO up kl E w E' w')(b:Nat)(h:E.Z b):E'.Z b/\oH w w' b:=
 ⟨by rw[x.Z];exact h,.of_eq (x.heap b (ok.sf.zb b h).1.2.1 (λl' ob c _ hr=>(ok.sf.zb b h).2.2.1 l' c hr) (λl' c _ hr=>(ok.sf.zb b h).2.2.1 l' c hr))⟩
theorem pO.keeps(ok:cF cx E w)(x:pO up ξ E w E' w'):gb E w E' w':=⟨λo y h=>x.r o y (by simp) h,λg=>x.H g,λg=>x.hH ok g,x.hT ok,x.hZ ok,x.n⟩
theorem pO.but{o:Nat}(ok:cF cx E w)(x:pO up (ς o) E w E' w'):eg o E w E' w':=⟨λl y hl h=>x.r l y (by grind) h,λg=>x.H g,λg=>x.hH ok g,x.hT ok,x.hZ ok,λl _=>by rw[x.n]⟩
theorem Bu(ok:cF cx E w)(x:pO up kl E w E' w'){t:T}(hf:∀o,kl=ς o->t.has o=η)(h:cvT E w t u):cvT E' w' t u:=by
 cases kl with
 |none=>exact iw (x.keeps ok) h
 |some o=>exact xV (x.but ok) (hf o rfl) h
theorem Us(ok:cF cx E w)(x:pO up kl E w E' w'){us:Lae}(hf:∀o,kl=ς o->Ae o cs=η)(h:CV E w cs us):CV E' w' cs us:=by
 cases kl with
 |none=>exact pN (x.keeps ok) h
 |some o=>exact EM (x.but ok) (hf o rfl) h
theorem Eo(ok:cF cx E w)(x:pO up kl E w E' w')(hb:w'.heap[b]?=w.heap[b]?):∀{g:Gr},qR E w els b g->qR E' w' els b g
 | .b _,_=>trivial
 | .s n,h| .t n,h=>h.keep hb (λk hk=>(x.hT ok n k hk).2) λk hk=>(x.hT ok n k hk).1
theorem Kv(ok:cF cx E w)(x:pO up kl E w E' w'){o:Nat}{ob:Ob}(hno:∀ob',(o,ob')∉up)(hk:kl≠ς o)(hh:∀d,kl=ς d->ob.hasO d=η)(h:cg E w o ob):cg E' w' o ob:=by
 have hb:∀b c,E.r o=ς (b,c)->w'.heap[b]?=w.heap[b]?:=λb c hr=>
  x.heap b (ok.rb o b c hr).1 (λl ob' c' hm hr'=>by have:=ok.inj _ _ _ _ _ hr hr';simp_all) (λl c' hl hr'=>by have:=ok.inj _ _ _ _ _ hr hr';simp_all)
 have hF:∀b c,E.r o=ς (b,c)->¬E.F b->¬E'.F b:=λb c hr hn hF=>(x.F' b hF).elim hn (λh=>h.elim (λhb=>by have:=(ok.rb o b c hr).1;omega) (λhb=>hb o c hk hr))
 cases ob with
 |var ty cs=>
  obtain⟨b,c,arr,hr,hh',hc,hf⟩:=h
  exact⟨b,c,arr,x.r _ _ hk hr,(hb b c hr).trans hh',Us ok x hh hc,hF b c hr hf⟩
 |row ty sz els g m=>
  obtain⟨b,c,arr,hr,hh',h1,h2,h3,h4,h5,h6,h7⟩:=h
  exact⟨b,c,arr,x.r _ _ hk hr,(hb b c hr).trans hh',h1,h2,h3,h4,bS (x.hH ok g) (x.H g) (hb b c hr) _ _ h5,λhm=>hF b c hr (h6 hm),λhm=>⟨x.H η b (h7.1 hm).1,λhg=>x.H ζ b ((h7.1 hm).2 hg)⟩,Eo ok x (hb b c hr) h7.2⟩
 |rown ty sz els g=>
  rcases h with⟨h0,h1⟩|⟨h0,b,c,arr,hr,hh',h1,h2,h3,h4,h5,h6⟩
  .exact .inl ⟨by rw[x.n];exact h0,h1⟩
  exact .inr ⟨by rw[x.n];exact h0,b,c,arr,x.r _ _ hk hr,(hb b c hr).trans hh',h1,h2,h3,h4,bS (x.hH ok g) (x.H g) (hb b c hr) _ _ h5,hF b c hr h6.1,Eo ok x (hb b c hr) h6.2⟩
 |abs l y=>
  rcases h with⟨h0,h1⟩|⟨h0,b,c,hr,h1,h2⟩
  .exact .inl ⟨by rw[x.n];exact h0,h1⟩
  exact .inr ⟨by rw[x.n];exact h0,b,c,x.r _ _ hk hr,y.st _ _ _ _ _ _ h1 (λk hk=>(x.hT ok l k hk).1) (hb b c hr) (λk hk=>(x.hT ok l k hk).2),hF b c hr h2⟩
end
def AWK(P:Program)(o:Oper)(needs:List (Operand×T))(nob:Laa)(out:T)(nw up:Laa)(kl:Option Nat):Prop:=
 ∀(cx:Cx) (E:Env) (a:Act) (w:World),cF cx E w->(∀x t,(x,t)∈needs->cvT E w t (a.eval x))->(∀l ob,(l,ob)∈nob->cg E w l ob)->
  (∀l ob,(l,ob)∈nw->E.r l=ξ/\rsv l=η)->
  o.wp P a w (λa' w'=>∃v E',a'=a.put o.dst v/\cF cx E' w'/\pO up kl E w E' w'/\cvT E' w' out v/\(∀l ob,(l,ob)∈nw->cg E' w' l ob)/\(∀l ob,(l,ob)∈up->cg E' w' l ob)/\
   (∀l x,E'.r l=ς x->E.r l=ς x\/∃ob,(l,ob)∈nw)) (λ_ _ _=>False)
theorem w6{o:Oper}{needs:List (Operand×T)}{nw up:Laa}(h:AWX P o needs nob out nw up):AWK P o needs nob out nw up none:=by
 intro cx E a w ok hn hb hf
 refine Oper.wp_mono ?_ (h cx E a w ok hn hb hf)
 rintro a' w' ⟨v,E',h1,h2,h3,h4,h5,h6,h7⟩
 exact⟨v,E',h1,h2,.of_extW h3,h4,h5,h6,h7⟩
def UA(d:Nat)(ob0:Laa)(k:Nat):Bool:=d0 k d||match go ob0 k with
 |some x=>x.hasO d
 |none=>η
def BA(d:Nat)(ob0:Laa):Laa->Option Laa
 |[]=>ς []
 |(k,x)::r=>match BA d ob0 r,UA d ob0 k with
  |some r',ζ=>ς r'
  |some r',η=>ς ((k,x)::r')
  |none,_=>ξ
def B1:List Nat->Lab->Laa->Option (Lab×Laa)
 |[],sl,ob=>ς (sl,ob)
 |d::ds,sl,ob=>match gI d sl,BA d ob ob with
  |some sl',ς ob'=>B1 ds sl' ob'
  |_,_=>ξ
theorem BB{d:Nat}{ob0:Laa}:∀{ob ob':Laa},BA d ob0 ob=ς ob'->∀{l:Nat} {x:Ob},go ob' l=ς x->UA d ob0 l=η/\go ob l=ς x
 |[],ob',h,l,x,hl=>by simp[BA] at h;subst h;cases hl
 |(k,y)::r,ob',h,l,x,hl=>by
  simp only[BA] at h
  cases h1:BA d ob0 r with
  |none=>simp_all
  |some r'=>
   cases h2:UA d ob0 k with
   |true=>
    simp[h1,h2] at h;subst h
    have ih:=BB h1 hl
    refine⟨ih.1,?_⟩
    rw[a9 _ _ (λe=>by simp_all)];exact ih.2
   |false=>
    simp[h1,h2] at h;subst h
    by_cases hk:k=l
    .subst hk;rw[bM] at hl ⊢;simp_all
    rw[a9 _ _ hk] at hl ⊢;exact BB h1 hl
theorem HW:∀{ds:List Nat} {sl sl':Lab} {ob ob':Laa},B1 ds sl ob=ς (sl',ob')->
 (∀k,gt sl' k= .any\/(gt sl' k=gt sl k/\∀d∈ds,(gt sl k).has d=η))/\(∀l x,go ob' l=ς x->go ob l=ς x/\∀d∈ds,l≠d/\x.hasO d=η)
 |[],sl,sl',ob,ob',h=>by
  simp[B1] at h;simp_all
 |d::ds,sl,sl',ob,ob',h=>by
  simp only[B1] at h
  cases h1:gI d sl with
  |none=>simp_all
  |some sl1=>
   cases h2:BA d ob ob with
   |none=>simp_all
   |some ob1=>
    simp only[h1,h2] at h
    obtain⟨i1,i2⟩:=HW h
    refine⟨λk=>?_,λl x hl=>?_⟩
    .rcases i1 k with e|⟨e1,e2⟩
     .exact .inl e
     rcases qj h1 k with e|⟨e3,e4⟩
     .simp_all
     simp_all
    obtain⟨e1,e2⟩:=i2 l x hl
    obtain⟨e3,e4⟩:=BB h2 e1
    refine⟨e4,λd' hd'=>?_⟩
    rcases Zp.1 hd' with rfl|hd'
    .simp only[UA,e4,ZB] at e3
     exact⟨eR e3.1,e3.2⟩
    simp_all
structure Inx where
 x:Inf
 up:Laa
 kl:Option Nat
def Qw(N:Nat)(o:Oper)(x:Inf):Prop:=(o.dst=ς x.d/\x.d<N)\/(o.dst=ξ/\N<=x.d/\x.out= .any)
def NX(P:Program)(N:Nat)(o:Oper)(st st':St)(y:Inx):Prop:=
 AWK P o y.x.needs y.x.nob y.x.out y.x.nw y.up y.kl/\Qw N o y.x/\Lk st.sl y.x.needs/\Lo st.ob y.x.nob/\Nw st.nx y.x.nw st'.nx/\st'=⟨(y.x.d,y.x.out)::st.sl,y.x.nw++(y.up++st.ob),st'.nx⟩
theorem Ie{o:Oper}{st':St}{x:Inf}(h:NS P N o st st' x):NX P N o st st' ⟨x,[],ξ⟩:=by
 obtain⟨h1,h2,h3,h4,h5,h6,h7⟩:=h
 exact⟨w6 (JF h1),.inl ⟨h2,h3⟩,h4,h5,h6,h7⟩
def DS2(P:Program)(N:Nat)(ops:Array Oper)(o:Oper)(st st':St)(y:Inx):Prop:=
 (o.guard=ξ/\NX P N o st st' y)\/
 (∃j dj b z,o.guard=ς (j,b)/\(ops[j]?).bind (·.dst)=ς dj/\dj<N/\gt st.sl dj=tB b/\NX P N o st st' z/\y=⟨{z.x with needs:=(.tmp dj,tB b)::z.x.needs},z.up,z.kl⟩)\/
 (∃j dj b d,o.guard=ς (j,b)/\(ops[j]?).bind (·.dst)=ς dj/\dj<N/\noG b (gt st.sl dj)=ζ/\o.dst=ς d/\d<N/\y=⟨⟨d,[(.tmp dj,gt st.sl dj)],[],.tup [],[]⟩,[],ξ⟩/\st'=⟨(d,.tup [])::st.sl,st.ob,st.nx⟩)
def obF(p:Nat->Bool):Nat->List Inx->Laa->Laa
 |_,[],acc=>acc
 |k,y::ys,acc=>obF p (k+1) ys (if p k then y.x.nw++(y.up++acc) else acc)
def oD(y:Inx)(l:Nat):Bool:=(y.x.nw.any λp=>d0 p.1 l)||(y.up.any λp=>d0 p.1 l)
theorem yh{A B:Laa}(h:(A.any λp=>d0 p.1 l)=η):go (A++B) l=go B l:=by
 induction A with
 |nil=>rfl
 |cons p A ih=>
  simp only[List.any_cons,ZB] at h
  obtain⟨k,v⟩:=p
  rw[ZN,go,h.1]
  exact ih h.2
theorem vN{A B:Laa}(h:(A.any λp=>d0 p.1 l)=ζ):go (A++B) l=go A l:=by
 induction A with
 |nil=>simp at h
 |cons p A ih=>
  obtain⟨k,v⟩:=p
  rw[ZN,go,go]
  grind
theorem pH{p q:Nat->Bool}{l:Nat}:∀{ys:List Inx} {k:Nat} {A B:Laa},go A l=go B l->(∀j y,ys[j]?=ς y->oD y l=ζ->p (k+j)=q (k+j))->go (obF p k ys A) l=go (obF q k ys B) l
 |[],_,_,_,h,_=>h
 |y::ys,k,A,B,h,ht=>by
  simp only[obF]
  refine pH ?_ (λj z hz hj=>by have:=ht (j+1) z (by simp_all) hj;grind)
  cases hto:oD y l with
  |true=>
   have h0:=ht 0 y rfl hto
   rw[ZX] at h0
   rw[h0]
   split
   .by_cases hn:(y.x.nw.any λp=>d0 p.1 l)=ζ
    .rw[vN hn,vN hn]
    rw[yh (A:=y.x.nw) (aai.2 hn),yh (A:=y.x.nw) (aai.2 hn)]
    have hu:(y.up.any λp=>d0 p.1 l)=true:=by simp only[oD,ZC] at hto;exact hto.resolve_left hn
    rw[vN hu,vN hu]
   exact h
  |false=>
   simp only[oD,ZB] at hto
   have e:∀X:Laa,go (y.x.nw++(y.up++X)) l=go X l:=λX=>by rw[yh hto.1,yh hto.2]
   split<;>split<;>(simp_all)<;>exact h
theorem Cd{p:Nat->Bool}{y:Inx}:∀{ys:List Inx} {k:Nat} {A:Laa},obF p k (ys++[y]) A=if p (k+ys.length) then y.x.nw++(y.up++obF p k ys A) else obF p k ys A
 |[],k,A=>by simp[obF]
 |z::ys,k,A=>by
  simp only[ZN,obF,ZE]
  rw[Cd,show k+1+ys.length=k+(ys.length+1) from by omega]
theorem uY{p:Nat->Bool}:∀{ys:List Inx} {k n:Nat} {A:Laa},(∀j,p (k+j)=decide (j<n))->obF p k ys A=obF (λ_=>ζ) k (ys.take n) A
 |[],k,n,A,_=>by simp[obF]
 |y::ys,k,0,A,h=>by
  have h0:=h 0
  simp at h0
  simp only[obF,aaE,h0]
  have:=uY (p:=p) (ys:=ys) (k:=k+1) (n:=0) (A:=A) (λj=>by have:=h (j+1);grind)
  simpa [obF] using this
 |y::ys,k,n+1,A,h=>by
  have h0:=h 0
  simp at h0
  simp only[obF,ZT,h0,if_true]
  exact uY (λj=>by grind)
def obX(base:St)(ys:List Inx):Laa:=obF (λ_=>ζ) 0 ys base.ob
theorem RX(base:St)(ys:List Inx)(y:Inx):obX base (ys++[y])=y.x.nw++(y.up++obX base ys):=by simp[obX,Cd]
def fF(ys:List Inx):List Inf:=ys.map (·.x)
def PL(P:Program)(N:Nat)(ops:Array Oper)(base:St)(pre:List Inx)(o:Oper)(y:Inx):Prop:=
 (∀z t,(z,t)∈y.x.needs->opT (tx base (fF pre)) z=t)/\(∀l ob,(l,ob)∈y.x.nob->go (obX base pre) l=ς ob)/\Qw N o y.x/\
 ((o.guard=ξ/\AWK P o y.x.needs y.x.nob y.x.out y.x.nw y.up y.kl)\/
  (∃j dj b ys,o.guard=ς (j,b)/\(ops[j]?).bind (·.dst)=ς dj/\dj<N/\y.x.needs=(.tmp dj,tB b)::ys/\AWK P o ys y.x.nob y.x.out y.x.nw y.up y.kl)\/
  (∃j dj b t,o.guard=ς (j,b)/\(ops[j]?).bind (·.dst)=ς dj/\dj<N/\y.x.needs=[(.tmp dj,t)]/\noG b t=ζ/\y.x.out= .tup []/\y.x.nw=[]/\y.up=[]/\y.kl=ξ))
theorem Pc{ops:Array Oper}{base st1:St}{ys:List Inx}{o:Oper}{y:Inx}(hds:DS2 P N ops o st st1 y)(hsame:sj st1 st2)(h1:∀k,gt st.sl k=gt (tx base (fF ys)) k)(h2:st.ob=obX base ys)(h3:eA base.nx (fF ys) st.nx):
 PL P N ops base ys o y/\(∀k,gt st2.sl k=gt (tx base (fF (ys++[y]))) k)/\st2.ob=obX base (ys++[y])/\eA base.nx (fF (ys++[y])) st2.nx:=by
 have hput:∀(out:T) (nw up:Laa) (n:Nat),y.x.out=out->y.x.nw=nw->y.up=up->st1=⟨(y.x.d,out)::st.sl,nw++(up++st.ob),n⟩->Nw st.nx nw n->(∀k,gt st2.sl k=gt (tx base (fF (ys++[y]))) k)/\st2.ob=obX base (ys++[y])/\eA base.nx (fF (ys++[y])) st2.nx:=by
  rintro out nw up n rfl rfl rfl rfl hnw
  refine⟨λk=>?_,?_,?_⟩
  .rw[<-hsame.1 k];simp only[fF,aad,aac,aae];rw[wi]
   by_cases hk:y.x.d=k
   .rw[hk,cG,cG]
   rw[b7 _ _ hk,b7 _ _ hk];exact h1 k
  .rw[<-hsame.2.1,RX,h2]
  rw[<-hsame.2.2];simp only[fF,aad,aac,aae];exact h3.snoc hnw
 rcases hds with⟨hg,k1,k2,k4,k5,k6,k7⟩|⟨j,dj,b,z,hg,hj,hdj,hb,⟨k1,k2,k4,k5,k6,k7⟩,rfl⟩|⟨j,dj,b,d,hg,hj,hdj,hb,hd,hN,rfl,rfl⟩
 .exact⟨⟨λz t hm=>by rw[<-qq h1];exact Lk.mem k4 z t hm,λl' ob hm=>by rw[<-h2];exact Lo.mem k5 l' ob hm,k2,.inl ⟨hg,k1⟩⟩,hput _ _ _ _ rfl rfl rfl k7 k6⟩
 .refine⟨⟨λy' t hm=>?_,λl' ob hm=>by rw[<-h2];exact Lo.mem k5 l' ob hm,k2,.inr (.inl ⟨j,dj,b,z.x.needs,hg,hj,hdj,rfl,k1⟩)⟩,hput _ _ _ _ rfl rfl rfl k7 k6⟩
  rw[<-qq h1]
  rcases Zp.1 hm with e|hm
  .cases e;exact hb
  exact Lk.mem k4 y' t hm
 refine⟨⟨λy' t hm=>?_,by simp,.inl ⟨hd,hN⟩,.inr (.inr ⟨j,dj,b,_,hg,hj,hdj,rfl,hb,rfl,rfl,rfl,rfl⟩)⟩,hput (.tup []) [] [] st.nx rfl rfl rfl rfl rfl⟩
 rw[<-qq h1]
 simp at hm;obtain⟨rfl,rfl⟩:=hm;rfl
def sI(y:Inx):List Nat:=y.x.nob.map (·.1)++(y.x.nw.map (·.1)++y.up.map (·.1))
def AO(ops:Array Oper):Bool:=
 (Zm ops.size).all λi=>match ops[i]? with
  |some o=>o.after.toList.all λe=>!Region.binds .any e||nlt e.on i
  |none=>η
def ia(l:List Nat)(n:Nat):Bool:=l.any λk=>d0 k n
def at0(seg:List Nat)(j:Nat):Nat:=seg.getD j 0
def z7(y:Inx)(d:Nat):Bool:=(y.x.needs.any λp=>p.2.has d)||ia (sI y) d||(y.x.nob.any λp=>p.2.hasO d)
def XK(ops:Array Oper)(seg:List Nat)(ys:List Inx):Bool:=
 (Zm ys.length).all λj=>match ys[j]? with
  |some z=>match z.kl with
   |none=>ζ
   |some d=>(Zm ys.length).all λi=>match ys[i]? with
    |some y=>d0 i j||!z7 y d||anc ops ops.size (at0 seg j) (at0 seg i)
    |none=>η
  |none=>η
def vf(ops:Array Oper)(done seg:List Nat)(ys:List Inx):Bool:=
 p6 (fF ys)&&d0 seg.length ys.length&&gm (seg++done)&&(seg.all λi=>nlt i ops.size)&&
 ((Zm ys.length).all λi=>match ys[i]? with
  |some y=>
   ((ik y.x.needs).all λk=>match sQ (fF ys) k with
    |none=>ζ
    |some j=>if nlt j i then anc ops ops.size (at0 seg i) (at0 seg j) else d0 i j||anc ops ops.size (at0 seg j) (at0 seg i))&&
   ((sI y).all λl=>(Zm ys.length).all λj=>match ys[j]? with
    |some z=>!oD z l||(if nlt j i then anc ops ops.size (at0 seg i) (at0 seg j) else d0 i j||anc ops ops.size (at0 seg j) (at0 seg i))
    |none=>η)
  |none=>η)&&
 ((Zm ops.size).all λj=>ia done j||ia seg j||seg.all λi=>anc ops ops.size j i)&&XK ops seg ys
def Dd(f:Nat->Nat)(ys:List Inx)(listed:Array Bool)(d:Nat):Prop:=∃j y,listed.getD (f j) η=ζ/\ys[j]?=ς y/\y.kl=ς d
structure Nv(N:Nat)(cx:Cx)(base:St)(f:Nat->Nat)(ys:List Inx)(listed:Array Bool)(a:Act)(w:World)(E:Env):Prop where
 ok:cF cx E w
 dom:∀l x,E.r l=ς x->l<base.nx\/∃j y ob,listed.getD (f j) η=ζ/\ys[j]?=ς y/\(l,ob)∈y.x.nw
 obs:∀l ob,go (obF (λj=>listed.getD (f j) η) 0 ys base.ob) l=ς ob->(∀d,Dd f ys listed d->l≠d/\ob.hasO d=η)->cg E w l ob
 out:∀j y,listed.getD (f j) η=ζ->ys[j]?=ς y->(∀d,Dd f ys listed d->y.x.out.has d=η)->cvT E w y.x.out (a.tmps.getD y.x.d undef)
 old:∀k,(∀j y,listed.getD (f j) η=ζ->ys[j]?=ς y->y.x.d≠k)->(∀d,Dd f ys listed d->(gt base.sl k).has d=η)->cvT E w (gt base.sl k) (a.tmps.getD k undef)
 dfr:a.defers=[]
 size:a.tmps.size=N
 td:∀l b,E.T l b->l<base.nx\/∃j y ob,listed.getD (f j) η=ζ/\ys[j]?=ς y/\(l,ob)∈y.x.nw
theorem N8{y:Inx}(h:oD y l=ζ){X:Laa}{ob:Ob}(hg:go (y.x.nw++(y.up++X)) l=ς ob):(l,ob)∈y.x.nw\/(l,ob)∈y.up:=by
 by_cases hn:(y.x.nw.any λp=>d0 p.1 l)=ζ
 .rw[vN hn] at hg;exact .inl (uR hg)
 have hu:(y.up.any λp=>d0 p.1 l)=true:=by simp only[oD,ZC] at h;exact h.resolve_left hn
 rw[yh (aai.2 hn),vN hu] at hg;exact .inr (uR hg)
theorem Tt{y:Inx}{ob:Ob}(h:(l,ob)∈y.up):oD y l=true:=by
 simp only[oD,ZC,ZG]
 exact .inr ⟨(l,ob),h,by simp⟩
theorem K9{y:Inx}(h:oD y l=ζ):l∈sI y:=by
 simp only[oD,ZC,ZG] at h
 simp only[sI,Zn,Z9]
 simp_all
section
variable{P:Program}{N:Nat}{cx:Cx}{ops:Array Oper}{base:St}{f:Nat->Nat}{ys:List Inx}{Q:Exit->Act->World->Prop}
def unl(ops:Array Oper)(listed:Array Bool):Nat:=((Zm ops.size).filter λi=>!listed.getD i η).length
def uI(ops:Array Oper)(listed:Array Bool):Prop:=∀i o,ops[i]?=ς o->listed.getD i η=ζ->∀e∈o.after,Region.binds .any e=ζ->listed.getD e.on η=ζ
theorem qO(hsz:listed.size=ops.size)(hio:i<ops.size)(hun:listed.getD i η=η):unl ops listed=unl ops (listed.setIfInBounds i ζ)+1:=by
 have hcount:∀(l:List Nat),l.Nodup->i∈l->(l.filter λk=>!listed.getD k η).length=(l.filter λk=>!(listed.setIfInBounds i ζ).getD k η).length+1:=by
  intro l
  induction l with
  |nil=>simp_all
  |cons k l ihl=>
   intro hnd hm
   obtain⟨hk1,hk2⟩:=Z2.1 hnd
   by_cases hki:i=k
   .subst hki
    have hsame:(l.filter λk=>!listed.getD k η)=(l.filter λk=>!(listed.setIfInBounds i ζ).getD k η):=by
     apply aaB
     intro z hz
     rw[cm oaa,if_neg (λe=>hk1 (by simp_all))]
    simp_all
   have hml:i∈l:=by rcases Zp.1 hm with e|e;exact absurd e hki;exact e
   have:=ihl hk2 hml
   have hgk:(listed.setIfInBounds i ζ).getD k η=listed.getD k false:=by rw[cm oaa,if_neg hki]
   grind
 exact hcount (Zm ops.size) aaC (by simp_all)
theorem uK{o:Oper}(hsz:listed.size=ops.size)(hio:i<ops.size)(ho:ops[i]?=ς o)(hd:∀e∈o.after,Region.binds .any e=ζ->listed.getD e.on η=ζ)(hcl:uI ops listed):uI ops (listed.setIfInBounds i ζ):=by
 intro j oj hj hdj e he hb
 rw[cm oaa]
 split
 .rfl
 rw[cm oaa] at hdj
 split at hdj
 .simp_all
 exact hcl j oj hj hdj e he hb
def Edg(ops:Array Oper)(rk:Nat->Nat):Prop:=∀i o,ops[i]?=ς o->∀e∈o.after,Region.binds .any e=ζ->e.on<ops.size/\rk e.on<rk i
theorem QA{ops:Array Oper}(hedge:∀i o,ops[i]?=ς o->∀e∈o.after,Region.binds .any e=ζ->e.on<i):Edg ops (λi=>i):=λi o ho e he hb=>by
 grind
theorem Cj{rk:Nat->Nat}(hedge:Edg ops rk)(hsz:listed.size=ops.size)(hc:unl ops listed=n+1):Region.ready .any ops listed≠[]:=by
 intro h0
 have hex:∃i,i<ops.size/\listed.getD i η=false:=by
  have:((Zm ops.size).filter λi=>!listed.getD i η)≠[]:=λe=>by unfold unl at hc;grind
  obtain⟨i,hi⟩:=aaz _ this
  simp only[List.mem_filter,List.mem_range,ZD] at hi
  exact⟨i,hi.1,hi.2⟩
 have hmin:∀n i,rk i<=n->i<ops.size->listed.getD i η=η->∃i,i∈Region.ready .any ops listed:=by
  intro n
  induction n using Nat.strongRecOn with
  |_ n ihn=>
   intro i hin his hif
   by_cases hd:∀e∈ops[i].after,Region.binds .any e=ζ->listed.getD e.on η=ζ
   .refine⟨i,mem_ready.2 ⟨?_,ops[i],ZO his,hd⟩⟩
    simp_all
   simp only[Classical.not_forall] at hd
   obtain⟨e,he,hb,hne⟩:=hd
   have hlt:=hedge i ops[i] (ZO his) e he hb
   exact ihn (rk e.on) oaa e.on (Zu _) hlt.1 (by simp_all)
 obtain⟨i,h1,h2⟩:=hex
 obtain⟨j,hj⟩:=hmin (rk i) i (Zu _) h1 h2
 simp_all
theorem kS(hsz:listed.size=ops.size)(hi:i∈Region.ready .any ops listed):i<ops.size/\listed.getD i η=η/\∃o,ops[i]?=ς o/\∀e∈o.after,Region.binds .any e=ζ->listed.getD e.on η=true:=by
 obtain⟨h1,o,ho,hd⟩:=mem_ready.1 hi
 grind
theorem wY(hcl:uI ops listed)(h:anc ops n i j=ζ)(hi:∃o,ops[i]?=ς o/\∀e∈o.after,Region.binds .any e=ζ->listed.getD e.on η=ζ):listed.getD j η=true:=pR hcl n i j h hi
theorem GT(hsz:listed.size=ops.size)(hcl:uI ops listed)(h:anc ops n i j=ζ)(hi:listed.getD i η=ζ):listed.getD j η=true:=by
 have his:i<ops.size:=by
  rcases ZF i ops.size with h|h
  .exact h
  simp_all
 exact pR hcl n i j h ⟨ops[i],ZO his,hcl i _ (ZO his) hi⟩
theorem MB{o:Oper}{x:Inf}(h:Qw N o x)(hs:a.tmps.size=N)(v:Value):a.put o.dst v=a.put (ς x.d) v:=by
 rcases h with⟨h,_⟩|⟨h,h2,_⟩
 .rw[h]
 rw[h]
 show a=a.put (ς x.d) v
 unfold Act.put
 simp only
 rw[show a.tmps.setIfInBounds x.d v=a.tmps from Array.setIfInBounds_eq_of_size_le oaa]
theorem Hz{d:Nat}{v:Value}(h:a.tmps.size<=d):(a.put (ς d) v).tmps.getD k undef=a.tmps.getD k undef:=by
 unfold Act.put
 grind
theorem N4(hI:Nv N cx base f ys listed a w E)(hdst:p6 (fF ys)=ζ){y:Inx}(hx:ys[i]?=ς y)(hil:f i<listed.size)(hinj:∀j,j<ys.length->f i=f j->i=j)(hun:listed.getD (f i) η=η)(hdN:y.x.d<N\/(N<=y.x.d/\y.x.out= .any))(hord:∀l,oD y l=ζ->∀j z,ys[j]?=ς z->oD z l=ζ->listed.getD (f j) η=decide (j<i)){v:Value}(ok':cF cx E' w')(ext:pO y.up y.kl E w E' w')(hv:cvT E' w' y.x.out v)(hnw:∀l ob,(l,ob)∈y.x.nw->cg E' w' l ob)(hup:∀l ob,(l,ob)∈y.up->cg E' w' l ob)(hdom:∀l x,E'.r l=ς x->E.r l=ς x\/∃ob,(l,ob)∈y.x.nw):Nv N cx base f ys (listed.setIfInBounds (f i) ζ) (a.put (ς y.x.d) v) w' E':=by
 have hD:∀d,Dd f ys listed d->Dd f ys (listed.setIfInBounds (f i) ζ) d:=λd ⟨j,z,h1,h2,h3⟩=>⟨j,z,by
  rw[cm hil];simp_all,h2,h3⟩
 have hDi:∀d,y.kl=ς d->Dd f ys (listed.setIfInBounds (f i) ζ) d:=λd h=>⟨i,y,by simp_all,hx,h⟩
 have hgx:∀(j:Nat) (z:Inx),ys[j]?=ς z->(fF ys)[j]?=ς z.x:=λj z h=>by simp[fF,h]
 have hd':∀j z,ys[j]?=ς z->j≠i->z.x.d≠y.x.d:=λj z hj hne he=>hne (p7 hdst j i z.x y.x (hgx j z hj) (hgx i y hx) he)
 have hlt:i<ys.length:=(v0.1 hx).1
 refine⟨ok',λl p hl=>?_,λl ob hl hdd=>?_,λj z hj hz hdd=>?_,λk hkk hdd=>?_,hI.dfr,by simpa [Act.put] using hI.size,λl b h=>?_⟩
 .rcases hdom l p hl with h|⟨ob,h⟩
  .rcases hI.dom l p h with h|⟨j,z,ob,h1,h2,h3⟩
   .exact .inl h
   refine .inr ⟨j,z,ob,?_,h2,h3⟩
   rw[cm hil];simp_all
  exact .inr ⟨i,y,ob,by simp_all,hx,h⟩
 .cases hto:oD y l with
  |true=>
   rw[pH (q:=λj=>decide (j<i+1)) (B:=base.ob) rfl (λj z hz hj=>by
    simp only[Zs]
    rw[cm hil]
    grind),uY (n:=i+1) (λj=>by simp),List.take_add_one,hx] at hl
   simp only[Option.toList_some] at hl
   rw[Cd,if_pos rfl] at hl
   rcases N8 hto hl with h|h
   .simp_all
   simp_all
  |false=>
   rw[pH (q:=λj=>listed.getD (f j) η) (B:=base.ob) rfl (λj z hz hj=>by
    simp only[Zs]
    rw[cm hil,if_neg]
    grind)] at hl
   refine Kv hI.ok ext (λob' hm=>?_) (λe=>(hdd l (hDi l e)).1 rfl) (λd hd=>(hdd d (hDi d hd)).2) (hI.obs l ob hl (λd hd=>hdd d (hD d hd)))
   rw[Tt hm] at hto;cases hto
 .by_cases hji:i=j
  .subst hji;rw[hx] at hz;cases hz
   rcases hdN with hdN|⟨_,ho⟩
   .rw[eK (by rw[hI.size];exact hdN),if_pos rfl];exact hv
   rw[ho];trivial
  rw[cm hil,if_neg (λe=>hji (hinj j (v0.1 hz).1 e))] at hj
  rcases hdN with hdN|⟨hdN,_⟩
  .rw[eK (by rw[hI.size];exact hdN),if_neg (Ne.symm (hd' j z hz (Ne.symm hji)))]
   exact Bu hI.ok ext (λd hd=>hdd d (hDi d hd)) (hI.out j z hj hz (λd hd=>hdd d (hD d hd)))
  rw[Hz (by rw[hI.size];exact hdN)]
  exact Bu hI.ok ext (λd hd=>hdd d (hDi d hd)) (hI.out j z hj hz (λd hd=>hdd d (hD d hd)))
 .have hxk:y.x.d≠k:=hkk i y (by simp_all) hx
  have hpp:(a.put (ς y.x.d) v).tmps.getD k undef=a.tmps.getD k undef:=by
   rcases hdN with hdN|⟨hdN,_⟩
   .rw[eK (by rw[hI.size];exact hdN),if_neg hxk]
   exact Hz (by rw[hI.size];exact hdN)
  rw[hpp]
  refine Bu hI.ok ext (λd hd=>hdd d (hDi d hd)) (hI.old k (λj z hj hz=>hkk j z ?_ hz) (λd hd=>hdd d (hD d hd)))
  rw[cm hil];simp_all
 rcases ext.T' l b h with h|⟨h0,p,h⟩|⟨_,p,h⟩
 .rcases hI.td l b h with h|⟨j,z,ob,h1,h2,h3⟩
  .exact .inl h
  refine .inr ⟨j,z,ob,?_,h2,h3⟩
  rw[cm hil];simp_all
 .rcases hdom l p h with h|⟨ob,h⟩
  .rw[h0] at h;cases h
  exact .inr ⟨i,y,ob,by simp_all,hx,h⟩
 rcases hI.dom l p h with h|⟨j,z,ob,h1,h2,h3⟩
 .exact .inl h
 refine .inr ⟨j,z,ob,?_,h2,h3⟩
 rw[cm hil];simp_all
theorem EJ{done:Nat->Bool}{rk:Nat->Nat}(hedge:Edg ops rk)(hhi:∀i,i<ys.length->f i<ops.size)(hinj:∀i j,i<ys.length->j<ys.length->f i=f j->i=j)(hdis:∀i,i<ys.length->done (f i)=η){nmax:Nat}(hlab:eA base.nx (fF ys) nmax)(hdst:p6 (fF ys)=ζ)(hslot:∀i y,ys[i]?=ς y->∀k∈ik y.x.needs,∀j,sQ (fF ys) k=ς j->if nlt j i then anc ops ops.size (f i) (f j)=ζ else(i=j\/anc ops ops.size (f j) (f i)=ζ))(hobj:∀i y,ys[i]?=ς y->∀l∈sI y,∀j z,ys[j]?=ς z->oD z l=ζ->if nlt j i then anc ops ops.size (f i) (f j)=ζ else(i=j\/anc ops ops.size (f j) (f i)=ζ))(hkill:∀j z d,ys[j]?=ς z->z.kl=ς d->∀i y,ys[i]?=ς y->i≠j->z7 y d=ζ->anc ops ops.size (f j) (f i)=ζ)(htail:∀j,j<ops.size->done j=η->(∀i,i<ys.length->f i≠j)->∀i,i<ys.length->anc ops ops.size j (f i)=ζ)(htold:∀(i:Nat) (o:Oper) (y:Inx),ops[f i]?=ς o->ys[i]?=ς y->PL P N ops base (ys.take i) o y)(hfin:∀(listed:Array Bool) a w E,listed.size=ops.size->uI ops listed->(∀j,done j=ζ->listed.getD j η=ζ)->(∀i,i<ys.length->listed.getD (f i) η=ζ)->(∀j,done j=η->(∀i,i<ys.length->f i≠j)->listed.getD j η=η)->Nv N cx base f ys listed a w E->wpAny P .any ops Q (unl ops listed) listed a w):
 ∀(m:Nat) (listed:Array Bool) (a:Act) (w:World) (E:Env),((Zm ys.length).filter λi=>!listed.getD (f i) η).length=m->listed.size=ops.size->uI ops listed->
  (∀j,done j=ζ->listed.getD j η=ζ)->(∀j,done j=η->(∀i,i<ys.length->f i≠j)->listed.getD j η=η)->Nv N cx base f ys listed a w E->wpAny P .any ops Q (unl ops listed) listed a w:=by
 intro m
 induction m with
 |zero=>
  intro listed a w E hm hsz hcl hpre hpost hI
  refine hfin listed a w E hsz hcl hpre (λi hi=>?_) hpost hI
  have:=aaA.1 (ZS hm) i (by grind)
  grind
 |succ m ih=>
  intro listed a w E hm hsz hcl hpre hpost hI
  obtain⟨i0,hi0,hu0⟩:∃i,i<ys.length/\listed.getD (f i) η=false:=by
   have:((Zm ys.length).filter λi=>!listed.getD (f i) η)≠[]:=λe=>by grind
   obtain⟨i,hi⟩:=aaz _ this
   grind
  have hus:=qO (ops:=ops) hsz (hhi i0 hi0) hu0
  rw[hus]
  refine⟨λh0=>absurd h0 (Cj hedge hsz hus),λp hp=>?_⟩
  obtain⟨hio,hun,o,ho,hd⟩:=kS hsz hp
  have hdp:done p=false:=by
   cases h:done p with
   |false=>rfl
   |true=>grind
  obtain⟨i,hil,rfl⟩:∃i,i<ys.length/\p=f i:=by
   apply Classical.byContradiction
   intro hno
   have hno':∀i,i<ys.length->f i≠p:=λi hi e=>hno ⟨i,hi,e.symm⟩
   have:=wY hcl (htail p hio hdp hno' i0 hi0) ⟨o,ho,hd⟩
   grind
  obtain⟨y,hx⟩:∃y,ys[i]?=ς y:=⟨_,Zl hil⟩
  have hus':unl ops (listed.setIfInBounds (f i0) ζ)=unl ops (listed.setIfInBounds (f i) ζ):=by
   have:=qO (ops:=ops) hsz hio hun;omega
  rw[hus']
  obtain⟨t1,t2,t3,t5⟩:=htold i o y ho hx
  have t4:y.x.d<N\/(N<=y.x.d/\y.x.out= .any):=t3.imp (·.2) (·.2)
  have hanc:∀j,anc ops ops.size (f i) (f j)=ζ->listed.getD (f j) η=true:=λj h=>wY hcl h ⟨o,ho,hd⟩
  have hanc':∀j,anc ops ops.size (f j) (f i)=ζ->listed.getD (f j) η=false:=λj h=>by
   cases hj:listed.getD (f j) η with
   |false=>rfl
   |true=>rw[GT hsz hcl h hj] at hun;cases hun
  have hord:∀l∈sI y,∀j z,ys[j]?=ς z->oD z l=ζ->listed.getD (f j) η=decide (j<i):=by
   intro l hl j z hz hj
   have:=hobj i y hx l hl j z hz hj
   by_cases hji:j<i
   .rw[if_pos (by simp[nlt];omega)] at this
    grind
   rw[if_neg (by simp[nlt];omega)] at this
   grind
  have hsp:∀d,Dd f ys listed d->z7 y d=false:=λd ⟨j,z,h1,h2,h3⟩=>by
   grind
  have hneeds:∀z t,(z,t)∈y.x.needs->cvT E w t (a.eval z):=by
   intro z t hm
   have hnt:∀d,Dd f ys listed d->t.has d=false:=λd hd=>by
    have:=hsp d hd
    simp only[z7,ZB] at this
    grind
   have ht:=t1 z t hm
   cases z with
   |tmp k=>
    have hks:k∈ik y.x.needs:=by
     have key:∀(l:List (Operand×T)),(Operand.tmp k,t)∈l->k∈ik l:=by
      intro l
      induction l with
      |nil=>grind
      |cons p r ihl=>
       intro h
       rcases Zp.1 h with e|h
       .rw[<-e];simp[ik]
       have h9:=ihl h;obtain⟨z,u⟩:=p;cases z<;>simp[ik,h9]
     exact key _ hm
    show cvT E w t (a.tmps.getD k undef)
    have ht':gt (tx base (fF (ys.take i))) k=t:=ht
    have hit:fF (ys.take i)=(fF ys).take i:=by simp[fF,aat]
    rw[hit] at ht'
    have hgx:∀(j:Nat) (z:Inf),(fF ys)[j]?=ς z->∃y',ys[j]?=ς y'/\y'.x=z:=λj z h=>by
     simp only[fF,List.getElem?_map,Option.map_eq_some_iff] at h;exact h
    cases hw:sQ (fF ys) k with
    |none=>
     have hno:∀z∈fF ys,z.d≠k:=by
      intro z hz e
      have:=Z3.1 hw z hz
      rw[e] at this;simp at this
     rw[wh _ _ (λz hz=>hno z (ZL hz))] at ht'
     rw[<-ht']
     exact hI.old k (λj y' _ hy=>hno y'.x (Z9.2 ⟨y',Zk hy,rfl⟩)) (λd hd=>by grind)
    |some j=>
     have hs:=hslot i y hx k hks j hw
     obtain⟨hjl,hjp,_⟩:=Z0.1 hw
     have hjd:(fF ys)[j].d=k:=Zo hjp
     obtain⟨yj,hyj,hyx⟩:=hgx j _ (Zl hjl)
     have hju:∀j' z,(fF ys)[j']?=ς z->z.d=k->j'=j:=λj' z hy he=>p7 hdst j' j z (fF ys)[j] hy (Zl hjl) (by rw[he,hjd])
     by_cases hji:j<i
     .rw[if_pos (by simp[nlt];omega)] at hs
      have hdone:=hanc j hs
      have h9:=uk (base:=base) ((fF ys).take i) j (fF ys)[j] (by rw[ZQ,if_pos hji];exact Zl hjl) (λj' z hy he=>hju j' z (by rw[ZQ] at hy;split at hy;exact hy;cases hy) (by rw[he,hjd]))
      rw[hjd] at h9
      have:=hI.out j yj hdone hyj (λd hd=>by rw[hyx,<-h9,ht'];exact hnt d hd)
      rw[hyx,hjd] at this
      grind
     rw[if_neg (by simp[nlt];omega)] at hs
     rw[wh _ _ (λz hz e=>by
      obtain⟨j',hj'⟩:=Zx hz
      rw[ZQ] at hj'
      split at hj'
      .rename_i hlt;have:=hju j' z hj' e;omega
      cases hj')] at ht'
     rw[<-ht']
     refine hI.old k (λj' y' hj' hy he=>?_) (λd hd=>by rw[ht'];exact hnt d hd)
     have hjj:=hju j' y'.x (by simp[fF,hy]) he
     subst hjj
     rcases hs with rfl|hs
     .grind
     rw[hanc' j' hs] at hj';cases hj'
   |const v=>have:=(show Rel N cx E ⟨[],[],base.nx⟩ a w->cvT E w (opT [] (.const v)) (a.eval (.const v)) from λh=>h.op _);rw[<-ht];cases v<;>simp only[opT,Act.eval,cvT,cvV]<;>first|exact vC E w _|exact⟨_,rfl,sR E w _⟩|(simp only[cvC,gD,rdD])
   |func f=>rw[<-ht];rfl
   |global g=>rw[<-ht];trivial
  have hnob:∀l ob,(l,ob)∈y.x.nob->cg E w l ob:=by
   intro l ob hm
   have hgo:=t2 l ob hm
   refine hI.obs l ob ?_ (λd hd=>by
    have:=hsp d hd
    simp only[z7,ZB] at this
    refine⟨λe=>?_,by grind⟩
    subst e
    have h9:ia (sI y) l=true:=ZG.2 ⟨l,by simp only[sI,Zn,Z9];grind,by simp⟩
    grind)
   rw[<-hgo,obX,<-uY (p:=λj=>decide (j<i)) (k:=0) (n:=i) (λj=>by simp)]
   refine pH rfl (λj z hz hj=>?_)
   rw[Zs]
   exact hord l (by simp only[sI,Zn,Z9];grind) j z hz hj
  have hgi:(fF ys)[i]?=ς y.x:=by simp[fF,hx]
  have hfresh:∀l ob,(l,ob)∈y.x.nw->E.r l=none:=by
   intro l ob hm
   cases hr:E.r l with
   |none=>rfl
   |some p=>
    have hlr:=(jT hlab).2 i y.x l ob hgi hm
    rcases hI.dom l p hr with h|⟨j,z,ob',h1,h2,h3⟩
    .omega
    have:=(vR hlab i j y.x z.x l ob ob' hgi (by simp[fF,h2]) hm h3).1
    grind
  have hnext:∀v E' w',cF cx E' w'->pO y.up y.kl E w E' w'->cvT E' w' y.x.out v->(∀l ob,(l,ob)∈y.x.nw->cg E' w' l ob)->(∀l ob,(l,ob)∈y.up->cg E' w' l ob)->(∀l x,E'.r l=ς x->E.r l=ς x\/∃ob,(l,ob)∈y.x.nw)->
   wpAny P .any ops Q (unl ops (listed.setIfInBounds (f i) ζ)) (listed.setIfInBounds (f i) ζ) (a.put (ς y.x.d) v) w':=by
   intro v E' w' k1 k2 k3 k4 k4' k5
   refine ih _ _ _ E' ?_ (by grind) (uK hsz hio ho hd hcl) (λj hj=>?_) (λj hj hj'=>?_) (N4 hI hdst hx oaa (λj hj e=>hinj i j hil hj e) hun t4 (λl hl=>hord l (K9 hl)) k1 k2 k3 k4 k4' k5)
   .have hcount:∀(l:List Nat),l.Nodup->(∀k∈l,k<ys.length)->i∈l->(l.filter λk=>!listed.getD (f k) η).length=(l.filter λk=>!(listed.setIfInBounds (f i) ζ).getD (f k) η).length+1:=by
     intro l
     induction l with
     |nil=>grind
     |cons k l ihl=>
      intro hnd hbd hm
      obtain⟨hk1,hk2⟩:=Z2.1 hnd
      by_cases hki:i=k
      .subst hki
       have hsame:(l.filter λk=>!listed.getD (f k) η)=(l.filter λk=>!(listed.setIfInBounds (f i) ζ).getD (f k) η):=by
        apply aaB
        intro z hz
        rw[cm oaa,if_neg (λe=>hk1 (by
         have:i=z:=hinj i z hil (hbd z (by simp[hz])) e
         grind))]
       rw[aar (by grind),aas (by rw[cm oaa,if_pos rfl];simp),hsame,ZE]
      have hml:i∈l:=by rcases Zp.1 hm with e|e;exact absurd e hki;exact e
      have:=ihl hk2 (λz hz=>hbd z (by simp[hz])) hml
      have hgk:(listed.setIfInBounds (f i) ζ).getD (f k) η=listed.getD (f k) false:=by rw[cm oaa,if_neg (λe=>hki (hinj i k hil (hbd k (by simp)) e))]
      cases hgd:listed.getD (f k) η with
      |true=>rw[aas (by grind),aas (by grind)];exact this
      |false=>rw[aar (by grind),aar (by grind),ZE,ZE,this]
    have:=hcount (Zm ys.length) aaC (λk hk=>by grind) (by grind)
    omega
   .rw[cm oaa];split
    .rfl
    grind
   rw[cm oaa,if_neg (hj' i hil)];exact hpost j hj hj'
  have hrun:∀needs,(∀z t,(z,t)∈needs->cvT E w t (a.eval z))->AWK P o needs y.x.nob y.x.out y.x.nw y.up y.kl->o.wp P a w (wpAny P .any ops Q (unl ops (listed.setIfInBounds (f i) ζ)) (listed.setIfInBounds (f i) ζ)) Q:=by
   intro needs hne hawn
   refine qQ (λ_ _ _ h=>h.elim) (Oper.wp_mono ?_ (hawn cx E a w hI.ok hne hnob (λl ob hm=>⟨hfresh l ob hm,B2 hlab i y.x l ob hgi hm⟩)))
   rintro a' w' ⟨v,E',rfl,k1,k2,k3,k4,k4',k5⟩
   rw[MB t3 hI.size]
   exact hnext v E' w' k1 k2 k3 k4 k4' k5
  have hguard:∀j dj (b:Bool),(ops[j]?).bind (·.dst)=ς dj->dj<N->cvT E w (tB b) (a.eval (.tmp dj))->yielded ops a.tmps j=ς b:=by
   intro j dj b hj hdj hcv
   have hb:a.tmps.getD dj undef= .bool b:=by simpa [rdD,Act.eval] using sv hcv
   have hs:dj<a.tmps.size:=by rw[hI.size];exact hdj
   have h2:a.tmps[dj]?=ς (.bool b):=by
    rw[ZO hs];simpa [Array.getD,hs] using hb
   unfold yielded
   cases ho':ops[j]? with
   |none=>simp[ho'] at hj
   |some o'=>simp[ho'] at hj;simp[hj,h2]
  unfold wpOp
  simp only[ho]
  rcases t5 with⟨hg,hawn⟩|⟨j,dj,b,zs,hg,hj,hdj,hnd,hawn⟩|⟨j,dj,b,t,hg,hj,hdj,hnd,hno,hout,hnw,hup,hkl⟩
  .rw[if_pos (by simp[Region.wanted,hg])]
   exact .inl (hrun _ hneeds hawn)
  .have hy:=hguard j dj b hj hdj (hneeds (.tmp dj) (tB b) (by rw[hnd];simp))
   rw[if_pos (by simp[Region.wanted,hg,hy])]
   exact .inl (hrun zs (λz t hm=>hneeds z t (by rw[hnd];exact .tail _ hm)) hawn)
  have hy:=Da (N:=N) (ops:=ops) (hneeds (.tmp dj) t (by rw[hnd];simp)) (by rw[hI.size];exact hdj) hj hno
  rw[if_neg (by simp[Region.wanted,hg,hy]),MB t3 hI.size]
  exact hnext undef E w hI.ok (by rw[hup,hkl];exact .of_extW (.of_ext (Ext.refl E w))) (by rw[hout];exact⟨#[],rfl,θ⟩) (by rw[hnw];simp) (by rw[hup];simp) (λ_ _ h=>.inl h)
end
def BO(P:Program)(N:Nat)(ops:Array Oper)(o:Oper)(st st':St):Prop:=
 (o.guard=ξ/\AWO P N o st st')\/(∃j dj b,o.guard=ς (j,b)/\(ops[j]?).bind (·.dst)=ς dj/\dj<N/\gt st.sl dj=tB b/\AWO P N o st st')
def Bn(ops:Array Oper)(done:List Nat)(h:Nat):Bool:=!ia done h&&(Zm ops.size).all λj=>d0 j h||ia done j||anc ops ops.size j h
def kls:List Inx->List Nat
 |[]=>[]
 |y::ys=>match y.kl with
  |some d=>d::kls ys
  |none=>kls ys
theorem Mo{d:Nat}:∀{ys:List Inx} {y:Inx},y∈ys->y.kl=ς d->d∈kls ys
 |z::zs,y,hm,hk=>by
  rcases Zp.1 hm with rfl|hm
  .simp[kls,hk]
  have:=Mo hm hk
  unfold kls
  grind
def A7(ys:List Inx)(st s:St):Prop:=
 (∀k,gt s.sl k= .any\/(gt s.sl k=gt st.sl k/\∀d∈kls ys,(gt st.sl k).has d=η))/\(∀l x,go s.ob l=ς x->go st.ob l=ς x/\∀d∈kls ys,l≠d/\x.hasO d=η)/\s.nx=st.nx
theorem Bs{ys:List Inx}(h:kls ys=[]):A7 ys st st:=by
 refine⟨λk=>.inr ⟨rfl,?_⟩,λl x hl=>⟨hl,?_⟩,rfl⟩<;>(simp_all)
theorem Br{ys:List Inx}{ds:List Nat}{ob:Laa}(h:kls ys=ds)(hk:B1 ds sl ob=ς (sl',ob')):A7 ys ⟨sl,ob,nx⟩ ⟨sl',ob',nx⟩:=by
 obtain⟨h1,h2⟩:=HW hk
 subst h
 exact⟨h1,h2,rfl⟩
theorem JK{ys:List Inx}(h:sj st st2)(hc:A7 ys st2 s):A7 ys st s:=
 ⟨λk=>by rw[h.1 k];exact hc.1 k,λl x hl=>by rw[h.2.1];exact hc.2.1 l x hl,hc.2.2.trans h.2.2.symm⟩
def DZ(P:Program)(N:Nat)(ops:Array Oper):List (Nat×Oper)->List Nat->List Nat->List Inx->St->St->(St->Prop)->Prop
 |[],done,seg,ys,_,st,K=>vf ops done seg ys=ζ/\∃s,A7 ys st s/\K s
 |(p,o)::r,done,seg,ys,base,st,K=>
  (∃y st1 st',DS2 P N ops o st st1 y/\sj st1 st'/\DZ P N ops r done (seg++[p]) (ys++[y]) base st' K)\/
  (vf ops done seg ys=ζ/\Bn ops (seg++done) p=ζ/\∃s st0 st1 st2,A7 ys st s/\cB N s st0/\BO P N ops o st0 st1/\cB N st1 st2/\DZ P N ops r (p::(seg++done)) [] [] st2 st2 K)
theorem fw{l:List Nat} :ia l n=ζ↔n∈l:=by
 simp only[ia,ZG]
 simp_all
theorem oJ{seg:List Nat}(h:j<seg.length):seg[j]?=ς (at0 seg j):=by
 unfold at0
 simp_all
section
variable{P:Program}{N:Nat}{cx:Cx}{ops:Array Oper}{base:St}{f:Nat->Nat}{done seg:List Nat}{ys:List Inx}{Q:Exit->Act->World->Prop}
theorem IT(h:vf ops done seg ys=ζ):p6 (fF ys)=ζ/\seg.length=ys.length/\(seg++done).Nodup/\(∀i,i<ys.length->at0 seg i<ops.size)/\
 (∀i y,ys[i]?=ς y->∀k∈ik y.x.needs,∀j,sQ (fF ys) k=ς j->if nlt j i then anc ops ops.size (at0 seg i) (at0 seg j)=ζ else(i=j\/anc ops ops.size (at0 seg j) (at0 seg i)=ζ))/\
 (∀i y,ys[i]?=ς y->∀l∈sI y,∀j z,ys[j]?=ς z->oD z l=ζ->if nlt j i then anc ops ops.size (at0 seg i) (at0 seg j)=ζ else(i=j\/anc ops ops.size (at0 seg j) (at0 seg i)=ζ))/\
 (∀j,j<ops.size->ia done j=η->(∀i,i<ys.length->at0 seg i≠j)->∀i,i<ys.length->anc ops ops.size j (at0 seg i)=ζ)/\
 (∀j z d,ys[j]?=ς z->z.kl=ς d->∀i y,ys[i]?=ς y->i≠j->z7 y d=ζ->anc ops ops.size (at0 seg j) (at0 seg i)=ζ):=by
 simp only[vf,hV] at h
 obtain⟨⟨⟨⟨⟨⟨h1,h2⟩,h2'⟩,h2''⟩,h3⟩,h4⟩,h5⟩:=h
 have hlen:seg.length=ys.length:=Zo h2
 have key:∀(i j:Nat),(if nlt j i then anc ops ops.size (at0 seg i) (at0 seg j) else d0 i j||anc ops ops.size (at0 seg j) (at0 seg i))=ζ->if nlt j i then anc ops ops.size (at0 seg i) (at0 seg j)=ζ else(i=j\/anc ops ops.size (at0 seg j) (at0 seg i)=ζ):=by
  intro i j h
  split
  .simp_all
  simp_all
 refine⟨h1,hlen,eP h2',λi hi=>?_,λi y hy k hk j hj=>?_,λi y hy l hl j z hz ht=>?_,λj hj hd hs i hi=>?_,λj z d hz hd i y hy hij hs=>?_⟩
 .exact bO (Zq.1 h2'' (at0 seg i) (Zk (oJ oaa)))
 .grind
 .grind
 .have:=Zq.1 h4 j (by simp_all)
  rw[ZC,ZC] at this
  rcases this with(h|h)|h
  .simp_all
  .obtain⟨n,hn⟩:=Zx (fw.1 h)
   have hns:=(v0.1 hn).1
   have:=oJ hns
   grind
  exact Zq.1 h (at0 seg i) (Zk (oJ oaa))
 have hjl:=(v0.1 hz).1
 have hil:=(v0.1 hy).1
 have h6:=Zq.1 h5 j (by simp_all)
 simp only[hz,hd] at h6
 have h7:=Zq.1 h6 i (by grind)
 simp only[hy,hs,aam,Bool.or_false,ZC] at h7
 rcases h7 with h7|h7
 .exact absurd (Zo h7) hij
 exact h7
theorem HR(hI:Nv N cx base f ys listed a w E)(hdst:p6 (fF ys)=ζ)(hdone:∀j,j<ys.length->listed.getD (f j) η=ζ)(h1:∀k,gt st.sl k=gt (tx base (fF ys)) k)(h2:st.ob=obX base ys)(h3:eA base.nx (fF ys) st.nx)(hC:A7 ys st s):Rel N cx E s a w:=by
 have hr:=jT h3
 obtain⟨C1,C2,C3⟩:=hC
 have hDk:∀d,Dd f ys listed d->d∈kls ys:=λd ⟨j,y,_,hy,hk⟩=>Mo (Zk hy) hk
 refine⟨hI.ok,λl' x' hl=>?_,λl' ob hl=>?_,λk=>?_,hI.dfr,hI.size,λl' b' h'=>?_⟩
 .rw[C3];rcases hI.dom l' x' hl with h|⟨j,y,ob,_,h4,h5⟩
  .omega
  have:=hr.2 j y.x l' ob (by simp[fF,h4]) h5;omega
 .obtain⟨hl,hn⟩:=C2 l' ob hl
  refine hI.obs l' ob ?_ (λd hd=>hn d (hDk d hd))
  rw[<-hl,h2,obX]
  refine pH rfl (λj z hz hj=>?_)
  grind
 .rcases C1 k with e|⟨e,hn⟩
  .rw[e];trivial
  rw[e]
  have hn':∀d,Dd f ys listed d->(gt st.sl k).has d=false:=λd hd=>hn d (hDk d hd)
  rw[h1 k] at hn' ⊢
  cases hw:sQ (fF ys) k with
  |none=>
   have hno:∀z∈fF ys,z.d≠k:=by
    intro z hz e
    have:=Z3.1 hw z hz
    rw[e] at this;simp at this
   rw[wh _ _ hno] at hn' ⊢
   exact hI.old k (λj y _ hy=>hno y.x (Z9.2 ⟨y,Zk hy,rfl⟩)) hn'
  |some j=>
   obtain⟨hjl,hjp,_⟩:=Z0.1 hw
   have hjd:(fF ys)[j].d=k:=Zo hjp
   have hjl':j<ys.length:=by simpa [fF] using hjl
   have h5:(fF ys)[j]=(ys[j]).x:=by simp[fF]
   have h9:=uk (base:=base) (fF ys) j (fF ys)[j] (Zl hjl) (λj' y hy he=>p7 hdst j' j y (fF ys)[j] hy (Zl hjl) he)
   rw[hjd] at h9
   have:=hI.out j ys[j] (hdone j hjl') (Zl hjl') (λd hd=>by simp_all)
   simp_all
 rw[C3];rcases hI.td l' b' h' with h|⟨j,y,ob,_,h4,h5⟩
 .omega
 have:=hr.2 j y.x l' ob (by simp[fF,h4]) h5;omega
theorem Iz(hR:Rel N cx E base a w)(hl:∀j,j<ys.length->listed.getD (f j) η=η):Nv N cx base f ys listed a w E:=by
 refine⟨hR.ok,λl x h=>.inl (hR.dom l x h),λl ob h _=>?_,λj y h hy _=>?_,λk _ _=>hR.sl k,hR.dfr,hR.size,λl b h=>.inl (hR.td l b h)⟩
 .refine hR.obs l ob ?_
  rw[pH (q:=λ_=>η) (B:=base.ob) rfl (λj z hz hj=>by grind)] at h
  rw[uY (n:=0) (λj=>by simp)] at h
  simpa [obF] using h
 grind
theorem Ib{l:List Nat}(h:l.Nodup):∀(i j:Nat) (x:Nat),l[i]?=ς x->l[j]?=ς x->i=j:=by
 intro i j x hi hj
 obtain⟨hi',e1⟩:=v0.1 hi
 obtain⟨hj',e2⟩:=v0.1 hj
 rcases aav i j with h'|h'|h'
 .exact absurd (e1.trans e2.symm) (ZJ.1 h i j hi' hj' h')
 .exact h'
 exact absurd (e2.trans e1.symm) (ZJ.1 h j i hj' hi' h')
theorem Qx{K:St->Prop}{rk:Nat->Nat}(hedge:Edg ops rk)(hQ:∀E st a w,Rel N cx E st a w->K st->Q .normal a w):
 ∀{l:List (Nat×Oper)} {done seg:List Nat} {ys:List Inx} {base st:St},DZ P N ops l done seg ys base st K->seg.length=ys.length->(∀q∈l,ops[q.1]?=ς q.2)->(∀j,j<ops.size->j∈seg\/j∈done\/∃q∈l,q.1=j)->
  (∀(i:Nat) (o:Oper) (y:Inx),ops[at0 seg i]?=ς o->ys[i]?=ς y->PL P N ops base (ys.take i) o y)->
  (∀k,gt st.sl k=gt (tx base (fF ys)) k)->st.ob=obX base ys->eA base.nx (fF ys) st.nx->
  ∀(listed:Array Bool) (a:Act) (w:World) (E:Env),listed.size=ops.size->uI ops listed->(∀j,listed.getD j η=ia done j)->Rel N cx E base a w->wpAny P .any ops Q (unl ops listed) listed a w:=by
 intro l
 induction l with
 |nil=>
  intro done seg ys base st hD hlen hops hcov htold h1 h2 h3 listed a w E hsz hcl hls hR
  obtain⟨hseg,s,hcl0,hK⟩:=hD
  obtain⟨c1,c1',c1'',c2,c3,c4,c5,c6⟩:=IT hseg
  obtain⟨nd1,nd2,nd3⟩:=aaj.1 c1''
  have hnd:∀i,i<ys.length->ia done (at0 seg i)=false:=λi hi=>by
   rw[aai];intro h
   exact nd3 _ (Zk (oJ oaa)) _ (fw.1 h) rfl
  refine EJ (f:=at0 seg) (done:=ia done) hedge c2 (λi j hi hj e=>Ib nd1 i j _ (oJ oaa) (by rw[e];exact oJ oaa)) hnd h3 c1 c3 c4 c6 c5 htold (λlisted' a' w' E' hsz' hcl' hd' hs' hp' hI'=>?_) _ listed a w E rfl hsz hcl (λj hj=>by simp_all) (λj hj _=>by simp_all) (Iz hR (λj hj=>by grind))
  have hall:∀j,j<ops.size->listed'.getD j η=true:=λj hj=>by
   rcases hcov j hj with h|h|⟨q,hq,_⟩
   .obtain⟨i,hi⟩:=Zx h
    have his:=(v0.1 hi).1
    have:=oJ his;grind
   .exact hd' j (fw.2 h)
   cases hq
  have hu:unl ops listed'=0:=by
   unfold unl
   rw[aap,aaA]
   intro j hj
   rw[hall j (by grind)]
   simp
  rw[hu]
  refine⟨?_,hQ E' s a' w' (HR hI' c1 hs' h1 h2 h3 hcl0) hK⟩
  rw[List.eq_nil_iff_forall_not_mem]
  intro i hi
  obtain⟨k1,k2,_⟩:=kS hsz' hi
  grind
 |cons q r ih=>
  obtain⟨p,o⟩:=q
  intro done seg ys base st hD hlen hops hcov htold h1 h2 h3 listed a w E hsz hcl hls hR
  have hat:ops[p]?=ς o:=hops (p,o) (by simp)
  rcases hD with⟨y,st1,st',hds,hsame,hr⟩|⟨hseg,hbar,s,st0,st1,st2,hcl0,hw0,hbo,hw1,hr⟩
  .obtain⟨k1,k2,k3,k4⟩:=Pc hds hsame h1 h2 h3
   refine ih hr (by simp[hlen]) (λq hq=>hops q (by simp[hq])) (λj hj=>?_) (λi o' y' ho' hy'=>?_) k2 k3 k4 listed a w E hsz hcl hls hR
   .grind
   rcases ZF i ys.length with h|h
   .rw[Zt h] at hy'
    rw[List.take_append_of_le_length oaa]
    have e:at0 (seg++[p]) i=at0 seg i:=by unfold at0;rw[aay,aay,Zt oaa]
    grind
   have hi:i=ys.length:=by
    have:=(v0.1 hy').1
    simp at this;omega
   subst hi
   simp at hy'
   subst hy'
   rw[List.take_left]
   have e:at0 (seg++[p]) ys.length=p:=by unfold at0;rw[aay,<-hlen];simp
   grind
  obtain⟨c1,c1',c1'',c2,c3,c4,c5,c6⟩:=IT hseg
  obtain⟨nd1,nd2,nd3⟩:=aaj.1 c1''
  have hlt:p<ops.size:=by
   rcases ZF p ops.size with h|h
   .exact h
   grind
  have hnd:∀i,i<ys.length->ia done (at0 seg i)=false:=λi hi=>by
   rw[aai];intro h
   exact nd3 _ (Zk (oJ oaa)) _ (fw.1 h) rfl
  refine EJ (f:=at0 seg) (done:=ia done) hedge c2 (λi j hi hj e=>Ib nd1 i j _ (oJ oaa) (by rw[e];exact oJ oaa)) hnd h3 c1 c3 c4 c6 c5 htold (λlisted' a' w' E' hsz' hcl' hd' hs' hp' hI'=>?_) _ listed a w E rfl hsz hcl (λj hj=>by grind) (λj hj _=>by grind) (Iz hR (λj hj=>by grind))
  have hseg':∀j,j∈seg->listed'.getD j η=true:=λj h=>by
   obtain⟨i,hi⟩:=Zx h
   have his:=(v0.1 hi).1
   have:=oJ his;grind
  have hls':∀j,listed'.getD j η=ia (seg++done) j:=λj=>by
   cases hm:ia (seg++done) j with
   |true=>
    rcases Zn.1 (fw.1 hm) with h|h
    .grind
    exact hd' j (fw.2 h)
   |false=>
    have hn:j∉seg++done:=λh=>by rw[fw.2 h] at hm;cases hm
    refine hp' j ?_ (λi hi e=>hn ?_)
    .rw[aai];intro h;exact hn (Zn.2 (.inr (fw.1 h)))
    rw[<-e];exact Zn.2 (.inl (Zk (oJ oaa)))
  have hRel:=HR hI' c1 hs' h1 h2 h3 hcl0
  simp only[Bn,hV] at hbar
  obtain⟨hpd,hbar⟩:=hbar
  have hun:listed'.getD p η=false:=by rw[hls'];simpa using hpd
  have hus:=qO (ops:=ops) hsz' hlt hun
  rw[hus]
  refine⟨λh0=>absurd h0 (Cj hedge hsz' hus),λq hq=>?_⟩
  obtain⟨hio,hunp,o',ho',hd⟩:=kS hsz' hq
  have hp:q=p:=by
   have hb:=Zq.1 hbar q (by grind)
   rw[ZC,ZC] at hb
   rcases hb with(hb|hb)|hb
   .exact Zo hb
   .grind
   have:=wY hcl' hb ⟨o',ho',hd⟩
   grind
  subst hp
  rw[hat] at ho'
  cases ho'
  obtain⟨E0,hR0⟩:=hw0 cx E' a' w' hRel
  have hrun:∀(h:AWO P N o st0 st1),o.wp P a' w' (wpAny P .any ops Q (unl ops (listed'.setIfInBounds q ζ)) (listed'.setIfInBounds q ζ)) Q:=by
   intro h
   refine qQ (λ_ _ _ h=>h.elim) (Oper.wp_mono ?_ (h cx E0 a' w' hR0))
   rintro a2 w2 ⟨E2,hR2⟩
   obtain⟨E3,hR3⟩:=hw1 cx E2 a2 w2 hR2
   refine ih hr rfl (λq hq=>hops q (by simp[hq])) (λj hj=>?_) (λi o' y' ho' hy'=>by simp at hy') (λk=>rfl) rfl rfl _ a2 w2 E3 (by grind) (uK hsz' hlt hat hd hcl') (λj=>?_) hR3
   .rcases hcov j hj with h|h|⟨z,hz,e⟩
    .grind
    .grind
    grind
   rw[cm oaa]
   split
   .rename_i h;subst h;symm;exact fw.2 (by simp)
   rename_i hne
   rw[hls' j]
   cases hm:ia (seg++done) j with
   |true=>symm;exact fw.2 (List.mem_cons_of_mem _ (fw.1 hm))
   |false=>
    symm;rw[aai];intro h
    rcases Zp.1 (fw.1 h) with e|h
    .omega
    rw[fw.2 h] at hm;cases hm
  unfold wpOp
  simp only[hat]
  rcases hbo with⟨hg,hawo⟩|⟨j,dj,b,hg,hj,hdj,hb,hawo⟩
  .rw[if_pos (by simp[Region.wanted,hg])]
   grind
  have hy:=C9 (ops:=ops) hR0 hj hdj hb
  rw[if_pos (by simp[Region.wanted,hg,hy])]
  grind
end
def Ce(l:List Oper):List Nat->Option (List (Nat×Oper))
 |[]=>ς []
 |i::is=>match l[i]?,Ce l is with
  |some o,ς r=>ς ((i,o)::r)
  |_,_=>ξ
def JN(n:Nat)(is:List Nat):Bool:=(Zm n).all λj=>ia is j
theorem qr{l:List Oper}:∀{is:List Nat} {r:List (Nat×Oper)},Ce l is=ς r->(∀q∈r,l[q.1]?=ς q.2)/\(∀j∈is,∃q∈r,q.1=j)
 |[],r,h=>by simp[Ce] at h;subst h;simp
 |i::is,r,h=>by
  simp only[Ce] at h
  split at h
  .rename_i o r' h1 h2
   simp at h;subst h
   obtain⟨k1,k2⟩:=qr h2
   refine⟨λq hq=>?_,λj hj=>?_⟩
   .grind
   rcases Zp.1 hj with rfl|hj
   .simp_all
   simp_all
  cases h
theorem wZ{id:Nat}{l:List Oper}{AQ:Exit->St->Prop}(is:List Nat){r:List (Nat×Oper)}(hm:P.follows .mixedOrders=true:=by exact Try.follows)(he:AO l.toArray=true:=by kernel_rfl)(hc:JN l.length is=true:=by kernel_rfl)(ho:Ce l is=ς r:=by exact rfl)(h:DZ P N l.toArray r [] [] [] st st (λs=>AQ .normal s)):AWC P N (.region id l.toArray ζ) st AQ:=by
 intro cx E a w hR
 refine wp_region_any hm ?_
 have hR':=yD hR
 have hedge:∀i o,l.toArray[i]?=ς o->∀e∈o.after,Region.binds .any e=ζ->e.on<i:=by
  intro i o ho e hm hb
  have hi:i<l.toArray.size:=by
   rcases ZF i l.toArray.size with h|h
   .exact h
   simp_all
  have:=Zq.1 he i (by simp_all)
  simp only[ho] at this
  have:=Zq.1 this e (by simp_all)
  simp only[hb,aam,Bool.false_or] at this
  exact bO this
 have hfull:unl l.toArray (Zv l.toArray.size η)=l.toArray.size:=by
  unfold unl
  rw[List.filter_eq_self.2]
  .simp
  simp_all
 have:=Qx (P:=P) (cx:=cx) (Q:=B5 N cx AQ) (QA hedge) (λE st a w hR hK=>⟨E,st,hR,hK⟩) h rfl (λq hq=>by have:=(qr ho).1 q hq;simp_all) (λj hj=>by
  have hj':j<l.length:=by simpa using hj
  have:=Zq.1 hc j (by simp_all)
  exact .inr (.inr ((qr ho).2 j (fw.1 this)))) (λi o y _ hy=>by simp at hy) (λk=>rfl) rfl rfl (Zv l.toArray.size η) a _ E (by simp) (λi o ho hd=>by rw[gS] at hd;cases hd) (λj=>by rw[gS];simp[ia]) hR'
 simp_all
section
variable{P:Program}{N:Nat}{ops:Array Oper}{l:List (Nat×Oper)}{o:Oper}{st st' base:St}{x:Inf}{y:Inx}{K:St->Prop}{ys:List Inx}{dn seg:List Nat}{p:Nat}
theorem JW(hs:vf ops dn seg ys=ζ)(hk:kls ys=[])(h:K st):DZ P N ops [] dn seg ys base st K:=⟨hs,st,Bs hk,h⟩
theorem oZ{ds:List Nat}{ob:Laa}(hs:vf ops dn seg ys=ζ)(hk:kls ys=ds)(hA:B1 ds sl ob=ς (sl',ob'))(h:K ⟨sl',ob',nx⟩):DZ P N ops [] dn seg ys base ⟨sl,ob,nx⟩ K:=⟨hs,_,Br hk hA,h⟩
theorem s3(hg:o.guard=ξ)(h:NS P N o st st' x)(h':DZ P N ops l dn (seg++[p]) (ys++[⟨x,[],ξ⟩]) base st' K):DZ P N ops ((p,o)::l) dn seg ys base st K:=.inl ⟨_,st',st',.inl ⟨hg,Ie h⟩,.refl _,h'⟩
theorem LO{dj:Tmp}{b:Bool}(hg:o.guard=ς (j,b))(hj:(ops[j]?).bind (·.dst)=ς dj)(hdj:nlt dj N=ζ)(hb:gt st.sl dj=tB b)(h:NS P N o st st' x)(h':DZ P N ops l dn (seg++[p]) (ys++[⟨{x with needs:=(.tmp dj,tB b)::x.needs},[],ξ⟩]) base st' K):DZ P N ops ((p,o)::l) dn seg ys base st K:=.inl ⟨_,st',st',.inr (.inl ⟨j,dj,b,_,hg,hj,bO hdj,hb,Ie h,rfl⟩),.refl _,h'⟩
theorem Qz(hg:o.guard=ξ)(h:NX P N o st st' y)(h':DZ P N ops l dn (seg++[p]) (ys++[y]) base st' K):DZ P N ops ((p,o)::l) dn seg ys base st K:=.inl ⟨_,st',st',.inl ⟨hg,h⟩,.refl _,h'⟩
theorem UQ{dj d:Tmp}{b:Bool}(hg:o.guard=ς (j,b))(hj:(ops[j]?).bind (·.dst)=ς dj){t:T}(hdj:nlt dj N=ζ)(ht:gt st.sl dj=t)(hb:noG b t=ζ)(hd:o.dst=ς d)(hN:nlt d N=ζ)(h':DZ P N ops l dn (seg++[p]) (ys++[⟨⟨d,[(.tmp dj,t)],[],.tup [],[]⟩,[],ξ⟩]) base ⟨(d,.tup [])::st.sl,st.ob,st.nx⟩ K):DZ P N ops ((p,o)::l) dn seg ys base st K:=
 .inl ⟨_,_,_,.inr (.inr ⟨j,dj,b,d,hg,hj,bO hdj,by simp_all,hd,bO hN,by rw[ht],rfl⟩),.refl _,h'⟩
theorem jP{st0 st1:St}(hg:o.guard=ξ)(h:AWO P N o st0 st1):BO P N ops o st0 st1:=.inl ⟨hg,h⟩
theorem cr:cB N s s:=λ_ E _ _ h=>⟨E,h⟩
theorem Fe{st0 st1:St}(hs:vf ops dn seg ys=ζ)(hkl:kls ys=[])(hb:Bn ops (seg++dn) p=ζ)(hw:cB N st st0)(h:BO P N ops o st0 st1)(hw2:cB N st1 st2){dn':List Nat}(hlo:p::(seg++dn)=dn')(h':DZ P N ops l dn' [] [] st2 st2 K):DZ P N ops ((p,o)::l) dn seg ys base st K:=by
 subst hlo
 exact .inr ⟨hs,hb,st,st0,st1,st2,Bs hkl,hw,h,hw2,h'⟩
theorem My(h:sj st st2)(hn:NX P N o st2 st' y):∃s',NX P N o st s' y/\sj s' st':=by
 obtain⟨h1,h2,h4,h5,h6,h7⟩:=hn
 refine⟨⟨(y.x.d,y.x.out)::st.sl,y.x.nw++(y.up++st.ob),st'.nx⟩,⟨h1,h2,EV (λk=>(h.1 k).symm) h4,by rw[h.2.1];exact h5,by rw[h.2.2];exact h6,rfl⟩,?_⟩
 rw[h7]
 refine⟨λk=>?_,?_,rfl⟩
 .by_cases hk:y.x.d=k
  .subst hk;rw[cG,cG]
  rw[b7 _ _ hk,b7 _ _ hk];exact h.1 k
 show y.x.nw++(y.up++st.ob)=y.x.nw++(y.up++st2.ob)
 rw[h.2.1]
theorem LP(h:sj st st2)(hd:DZ P N ops ((p,o)::l) dn seg ys base st2 K):DZ P N ops ((p,o)::l) dn seg ys base st K:=by
 rcases hd with⟨y,st1,st',hds,hsame,hr⟩|⟨hs,hb,s,st0,st1,st3,hcl,hw,hbo,hw2,hr⟩
 .left
  rcases hds with⟨hg,hn⟩|⟨j,dj,b,z,hg,hj,hdj,hb,hn,rfl⟩|⟨j,dj,b,d,hg,hj,hdj,hb,hd,hN,rfl,rfl⟩
  .obtain⟨s',k1,k2⟩:=My h hn
   exact⟨y,s',st',.inl ⟨hg,k1⟩,k2.trans hsame,hr⟩
  .obtain⟨s',k1,k2⟩:=My h hn
   exact⟨_,s',st',.inr (.inl ⟨j,dj,b,z,hg,hj,hdj,by rw[h.1];exact hb,k1,rfl⟩),k2.trans hsame,hr⟩
  refine⟨_,⟨(d,.tup [])::st.sl,st.ob,st.nx⟩,st',.inr (.inr ⟨j,dj,b,d,hg,hj,hdj,by rw[h.1];exact hb,hd,hN,by rw[h.1],rfl⟩),sj.trans (b:=⟨(d,.tup [])::st2.sl,st2.ob,st2.nx⟩) ⟨λk=>?_,h.2.1,h.2.2⟩ hsame,hr⟩
  show gt ((d,T.tup [])::st.sl) k=gt ((d,T.tup [])::st2.sl) k
  by_cases hk:d=k
  .subst hk;rw[cG,cG]
  rw[b7 _ _ hk,b7 _ _ hk];exact h.1 k
 exact .inr ⟨hs,hb,s,st0,st1,st3,JK h hcl,hw,hbo,hw2,hr⟩
theorem Qy{d:Tmp}{b:Bool}(hb:gt st.sl d=tB b)(h1:b=ζ->DZ P N ops ((p,o)::l) dn seg ys base ⟨(d,tB ζ)::st.sl,st.ob,st.nx⟩ K)(h0:b=η->DZ P N ops ((p,o)::l) dn seg ys base ⟨(d,tB η)::st.sl,st.ob,st.nx⟩ K):DZ P N ops ((p,o)::l) dn seg ys base st K:=by
 cases hc:b with
 |true=>exact LP (rF hb hc) (h1 hc)
 |false=>exact LP (rF hb hc) (h0 hc)
theorem Ff{K K':St->Prop}(hk:∀s,K s->K' s):∀{l:List (Nat×Oper)} {dn seg:List Nat} {ys:List Inx} {base st:St},DZ P N ops l dn seg ys base st K->DZ P N ops l dn seg ys base st K'
 |[],_,_,_,_,_,h=>by obtain⟨h1,s,h2,h3⟩:=h;exact⟨h1,s,h2,hk _ h3⟩
 |(p,o)::l,_,_,_,_,_,h=>by
  rcases h with⟨y,st1,st',h1,h2,h3⟩|⟨h1,h2,s,st0,st1,st2,h0,h3,h4,h5,h6⟩
  .exact .inl ⟨y,st1,st',h1,h2,Ff hk h3⟩
  exact .inr ⟨h1,h2,s,st0,st1,st2,h0,h3,h4,h5,Ff hk h6⟩
theorem UP(M:St)[c:Dc N K](h1:DZ P N ops l dn seg ys base st (λs=>cB N s M))(h2:K M):DZ P N ops l dn seg ys base st K:=Ff (λs h=>c.h _ _ h h2) h1
end
section
variable{P:Program}{N:Nat}{ops:Array Oper}{l:List (Nat×Oper)}{o:Oper}{sl:Lab}{ob:Laa}{nx:Nat}{base:St}{K:St->Prop}{ys:List Inx}{dn seg:List Nat}{p:Nat}
theorem zgs{dj d:Tmp}{b:Bool}{t:T}(hg:o.guard=ς (j,b))(hj:(ops[j]?).bind (·.dst)=ς dj)(hdj:nlt dj N=ζ)(ht:gt sl dj=t)(hb:noG b t=ζ)(hd:o.dst=ς d)(hN:nlt d N=ζ)(h':DZ P N ops l dn (seg++[p]) (ys++[⟨⟨d,[(.tmp dj,t)],[],.tup [],[]⟩,[],ξ⟩]) base ⟨(d,.tup [])::sl,ob,nx⟩ K):DZ P N ops ((p,o)::l) dn seg ys base ⟨sl,ob,nx⟩ K:=UQ (st:=⟨sl,ob,nx⟩) hg hj hdj ht hb hd hN h'
theorem zg2{dj:Tmp}{b c:Bool}(hg:o.guard=ς (j,b))(hj:(ops[j]?).bind (·.dst)=ς dj)(hb:gt sl dj=tB c)(h1:c=ζ->DZ P N ops ((p,o)::l) dn seg ys base ⟨(dj,tB ζ)::sl,ob,nx⟩ K)(h0:c=η->DZ P N ops ((p,o)::l) dn seg ys base ⟨(dj,tB η)::sl,ob,nx⟩ K):DZ P N ops ((p,o)::l) dn seg ys base ⟨sl,ob,nx⟩ K:=Qy (st:=⟨sl,ob,nx⟩) hb h1 h0
theorem cwx{d:Tmp}{o:Nat}{x0 x1:Ob}{eqs:Lac}{nw:Laa}(hF:FnW P f x1 ts' y res)(ht:ni sl args=ς ts:=by exact rfl)(ho:go ob o=ς x0:=by exact rfl)(hl:x0.loc=x1:=by exact rfl)(hfx:x0.free=true:=by exact rfl)(hfy:y.free=true:=by exact rfl)(ha:wG [] o ts=ς (ts',eqs):=by exact rfl)(he:Eqs eqs:=by repeat (first|exact θ|refine⟨by first|rfl|exact lm _|simp,?_⟩))(hi:xi nx res=ς (out,nw,n):=by exact rfl)(hw:zL nx nw n=true:=by exact rfl)(hN:nlt d N=true:=by exact rfl)(hob:apO nw ((o,y)::ob)=ς ob':=by exact rfl):
 NX P N ⟨ς d,.call ⟨.value (.func f),args.toArray,tys⟩,ty,ps,af,gd⟩ ⟨sl,ob,nx⟩ ⟨(d,out)::sl,ob',n⟩ ⟨⟨d,args.zip ts,[(o,x0)],out,nw⟩,[(o,y)],ξ⟩:=by
 subst hl
 rw[mY hob]
 obtain⟨t1,t2⟩:=nN ht
 exact⟨w6 (ND hF t1 hfx hfy ha he hi),.inl ⟨rfl,bO hN⟩,t2,⟨ho,θ⟩,yt hw,rfl⟩
theorem yb{cx:Cx}{o c:Nat}{cs:Array Value}(ok:cF cx E w)(hr:E.r o=ς (b,c))(hF:¬E.F b):cF cx E (w.setRow b cs):=by
 have hsz:(w.setRow b cs).heap.size=w.heap.size:=by simp
 refine⟨λk hk=>by rw[hsz];exact ok.fb k hk,ok.gf,ok.gn,λo b c h=>by rw[hsz];exact ok.rb o b c h,ok.inj,ok.os,ok.tape,ok.output,by rw[hsz];exact ok.size,λk hk hW=>?_,ok.pin,ok.ff,λk hg hk'=>(ok.gc k hg hk').of_eq (c8 w b k cs (λe=>hF (by simp_all))),ok.sf.setRow hr⟩
 rw[c8 _ _ _ _ (λe=>by
  subst e
  rcases ok.rw hr with h|h
  .omega
  simp_all)]
 exact ok.block k hk hW
theorem Hp{cx:Cx}{o c:Nat}{cs:Array Value}{ob':Ob}(ok:cF cx E w)(hr:E.r o=ς (b,c))(hF:¬E.F b):Nu [(o,ob')] E w E (w.setRow b cs):=by
 refine⟨λ_ _ h=>h,λ_ h=>h,λ_ h=>h,λ_ h=>.inl h,λk hk hne=>c8 w b k cs (λe=>?_),λl ob k c' hm h=>?_,λ_ _ h=>h,λ_ _ h=>.inl h,rfl,rfl⟩
 .simp_all
 simp_all
theorem spx{x y:Operand}{o:Nat}{vt:TypeId}{cs' ns:List C}{v:V}(q:Nat)(hq:Zw N q=true:=by exact rfl)[ht:TyN P t n](hx:opT sl x= .v (.c (.p o k)):=by exact rfl)(hy:opT sl y= .v v:=by exact rfl)(ho:go ob o=ς (.var vt cs):=by exact rfl)(hv:vcs v=ς ns:=by exact rfl)(hn:d0 ns.length n=true:=by exact rfl)(hst:ns.all C.sto=true:=by exact rfl)(hs:oA k ns cs=ς cs':=by exact rfl):
 NX P N ⟨ξ,.store t x y,ty,ps,af,gd⟩ ⟨sl,ob,nx⟩ ⟨(q,.any)::sl,(o,.var vt cs')::ob,nx⟩ ⟨⟨q,[(x,.v (.c (.p o k))),(y,.v v)],[(o,.var vt cs)],.any,[]⟩,[(o,.var vt cs')],ξ⟩:=by
 refine⟨w6 ?_,.inr ⟨rfl,ZK hq,rfl⟩,⟨hx,hy,θ⟩,⟨ho,θ⟩,rfl,rfl⟩
 intro cx E a w ok hne hnob hfr
 have h1:cvT E w (.v (.c (.p o k))) (a.eval x):=hne x _ (.head _)
 have h2:cvT E w (.v v) (a.eval y):=hne y _ (.tail _ (.head _))
 obtain⟨b,c,hr,hu⟩:=h1
 have h3:cg E w o (.var vt cs):=hnob o _ (.head _)
 obtain⟨b',c',arr,hr',hh,hcv,hF⟩:=h3
 rw[hr] at hr';cases hr'
 have hvc:=GD hv h2
 have hl1:=im hvc
 have hl2:=im hcv
 have hnn:=Zo hn
 have hle:=(nY hs).2
 have hsz:(a.eval y).cells.size=n:=by simp at hl1;omega
 have hrun:=oB (P:=P) (t:=t) (n:=n) (k:=k) hsz (PD hv hst h2) hh (by simp_all)
 unfold Oper.wp
 simp only[execOp,hu,Sem.run_bind,hrun,Result.andThen_ok,Sem.run_pure,Oper.upon_skip,Act.put]
 have hk:=iQ (cs:=(arr.toList.take k++(a.eval y).cells.toList++arr.toList.drop (k+n)).toArray) (w:=w) ok hr hF
 refine⟨undef,E,θ,yb ok hr hF,?_,θ,(λ_ _ h=>by cases h),λl ob' hm=>?_,λl p h=>.inl h⟩
 .exact Hp ok hr hF
 simp at hm;obtain⟨rfl,rfl⟩:=hm
 refine⟨b,c,_,hr,fC _ hh,?_,hF⟩
 refine pN hk (zj hs hvc hcv ?_ λi=>?_)
 .grind
 rw[show(arr.toList.take k++(a.eval y).cells.toList++arr.toList.drop (k+n)).toArray.toList=arr.toList.take k++(a.eval y).cells.toList++arr.toList.drop (k+n) from rfl]
 exact je oaa oaa i
end
def sw(p q l:Nat):Nat:=bif d0 l p then q else bif d0 l q then p else l
theorem JH(a b:Nat):d0 a b=decide (a=b):=by
 by_cases h:a=b
 .subst h;simp
 rw[gJ h];simp[h]
theorem CX(p q l:Nat):sw p q (sw p q l)=l:=by
 unfold sw
 simp only[JH]
 grind
theorem YX{a:Nat}(h:sw p q a=sw p q b):a=b:=by rw[<-CX p q a,h,CX]
theorem Tl(hp:rsv p=η)(hq:rsv q=η)(l:Nat):(rsv l=ζ->sw p q l=l)/\(rsv (sw p q l)=ζ->sw p q l=l):=by
 unfold sw
 simp only[JH]
 grind
theorem sw_lt(hp:p<n)(hq:q<n)(h:sw p q l<n):l<n:=by
 rw[<-CX p q l]
 generalize sw p q l=m at h
 unfold sw
 grind
def swC(p q:Nat):C->C
 | .w o n=>.w (sw p q o) n
 | .wn o n=>.wn (sw p q o) n
 | .s o a b c=>.s (sw p q o) a b c
 | .p o k=>.p (sw p q o) k
 | .e o a b c=>.e (sw p q o) a b c
 |c=>c
def Wb(p q:Nat):List C->List C
 |[]=>[]
 |c::cs=>swC p q c::Wb p q cs
def swV(p q:Nat):V->V
 | .c c=>.c (swC p q c)
 | .agg cs=>.agg (Wb p q cs)
def YW(p q:Nat):List V->List V
 |[]=>[]
 |c::cs=>swV p q c::YW p q cs
def swT(p q:Nat):T->T
 | .v v=>.v (swV p q v)
 | .tup vs=>.tup (YW p q vs)
 | .any=>.any
def YU(p q:Nat):Ob->Ob
 | .var t cs=>.var t (Wb p q cs)
 |o=>o
def swS(p q:Nat):Lab->Lab
 |[]=>[]
 |(k,t)::r=>(k,swT p q t)::swS p q r
def swO(p q:Nat):Laa->Laa
 |[]=>[]
 |(k,t)::r=>(sw p q k,YU p q t)::swO p q r
def Env.sw(E:Env)(p q:Nat):Env:={E with r:=λl=>E.r (AM.sw p q l),n:=λl=>E.n (AM.sw p q l)}
theorem Tj{c:C}(h:cvC E w c u):cvC (E.sw p q) w (swC p q c) u:=by
 have e:∀o,(E.sw p q).r (sw p q o)=E.r o:=λo=>by simp[Env.sw,CX]
 cases c with
 |w o n=>obtain⟨b,c,h1,h2⟩:=h;exact⟨b,c,(e o).trans h1,h2⟩
 |wn o n=>
  have e2:(E.sw p q).n (sw p q o)=E.n o:=by simp[Env.sw,CX]
  rcases h with⟨h1,h2⟩|⟨h0,b,c,h1,h2⟩
  .exact .inl ⟨by simp_all,h2⟩
  exact .inr ⟨by simp_all,b,c,(e o).trans h1,h2⟩
 |s o a b c=>obtain⟨A,c',b',k,h1,h2⟩:=h;exact⟨A,c',b',k,(e o).trans h1,h2⟩
 |p o k=>obtain⟨b,c,h1,h2⟩:=h;exact⟨b,c,(e o).trans h1,h2⟩
 |e o a b c=>obtain⟨b',c',h1,h2⟩:=h;exact⟨b',c',(e o).trans h1,h2⟩
 |_=>exact h
theorem Gw{E:Env}{w:World}{p q:Nat}:∀{cs:List C} {us:Lae},CV E w cs us->CV (E.sw p q) w (Wb p q cs) us
 |[],[],h=>h
 |[],_::_,h=>h.elim
 |_::_,[],h=>h.elim
 |_::_,_::_,h=>⟨Tj h.1,Gw h.2⟩
theorem Tk{c:V}(h:cvV E w c u):cvV (E.sw p q) w (swV p q c) u:=by
 cases c with
 |c c=>exact Tj h
 |agg cs=>obtain⟨arr,h1,h2⟩:=h;exact⟨arr,h1,Gw h2⟩
theorem Nd{E:Env}{w:World}{p q:Nat}:∀{cs:List V} {us:Lae},VV E w cs us->VV (E.sw p q) w (YW p q cs) us
 |[],[],h=>h
 |[],_::_,h=>h.elim
 |_::_,[],h=>h.elim
 |_::_,_::_,h=>⟨Tk h.1,Nd h.2⟩
theorem YV{t:T}(h:cvT E w t u):cvT (E.sw p q) w (swT p q t) u:=by
 cases t with
 |v v=>exact Tk h
 |tup vs=>obtain⟨arr,h1,h2⟩:=h;exact⟨arr,h1,Nd h2⟩
 |any=>trivial
theorem Wc{o:Nat}{ob:Ob}(h:cg E w (sw p q o) ob):cg (E.sw p q) w o (YU p q ob):=by
 cases ob with
 |var t cs=>obtain⟨b,c,arr,h1,h2,h3,h4⟩:=h;exact⟨b,c,arr,h1,h2,Gw h3,h4⟩
 |row t sz els g m=>exact h
 |rown t sz els g=>exact h
 |abs l y=>exact h
theorem QX{p q:Nat}:∀(sl:Lab) (k:Nat),gt (swS p q sl) k=swT p q (gt sl k)
 |[],k=>rfl
 |(j,t)::r,k=>by
  simp only[swS,gt]
  cases d0 j k
  .exact QX r k
  rfl
theorem QW{p q:Nat}:∀(ob:Laa) (o:Nat),go (swO p q ob) o=(go ob (sw p q o)).map (YU p q)
 |[],o=>rfl
 |(j,t)::r,o=>by
  simp only[swO,go,JH]
  by_cases h:j=sw p q o
  .subst h;simp[CX]
  have h2:sw p q j≠o:=λe=>h (by rw[<-e,CX])
  simp only[h,h2,decide_false,cond_false]
  exact QW r o
theorem C6{ob:Laa}(hp:rsv p=false:=by exact rfl)(hq:rsv q=false:=by exact rfl)(hpn:nlt p nx=true:=by exact rfl)(hqn:nlt q nx=true:=by exact rfl):cB N ⟨sl,ob,nx⟩ ⟨swS p q sl,swO p q ob,nx⟩:=by
 intro cx E a w hR
 have ok:=hR.ok
 refine⟨E.sw p q,⟨ok.fb,ok.gf,ok.gn,λo b c h=>?_,λo o' b c c' h h'=>YX (ok.inj _ _ _ _ _ h h'),ok.os,ok.tape,ok.output,ok.size,ok.block,λo x hr h=>?_,ok.ff,ok.gc,?_⟩,λo x h=>sw_lt (bO hpn) (bO hqn) (hR.dom _ x h),λo ob' h=>?_,λk=>?_,hR.dfr,hR.size,hR.td⟩
 .obtain⟨h1,h2⟩:=ok.rb _ b c h
  refine⟨h1,h2.imp id λh3=>⟨h3.1,?_⟩⟩
  have:=(Tl hp hq o).2 h3.2
  simp_all
 .have h':E.r (sw p q o)=ς x:=h
  rw[(Tl hp hq o).1 (AX hr)] at h'
  exact ok.pin o x hr h'
 .have sf:=ok.sf
  exact⟨λl b h=>⟨(sf.tb l b h).1,(sf.tb l b h).2.1,λo c=>(sf.tb l b h).2.2.1 _ c,(sf.tb l b h).2.2.2⟩,sf.tt,λb h=>⟨(sf.zc b h).1,(sf.zc b h).2.1,λo c=>(sf.zc b h).2.2.1 _ c,(sf.zc b h).2.2.2⟩,sf.zs,sf.ze⟩
 .rw[QW] at h
  cases hg:go ob (sw p q o) with
  |none=>simp_all
  |some x=>rw[hg] at h;cases h;exact Wc (hR.obs _ x hg)
 rw[QX];exact YV (hR.sl k)
def wnC(o n:Nat):C->C
 | .w k m=>bif d0 k o then .w k n else .w k m
 | .wn k m=>bif d0 k o then .wn k n else .wn k m
 |c=>c
def TW(o n:Nat):C->Lac
 | .w k m=>bif d0 k o then [(m,n)] else []
 | .wn k m=>bif d0 k o then [(m,n)] else []
 |_=>[]
def TU(o n:Nat):List C->List C
 |[]=>[]
 |c::cs=>wnC o n c::TU o n cs
def Jo(o n:Nat):List C->Lac
 |[]=>[]
 |c::cs=>TW o n c++Jo o n cs
def wnT(o n:Nat):T->T
 | .v (.c c)=>.v (.c (wnC o n c))
 | .v (.agg cs)=>.v (.agg (TU o n cs))
 |t=>t
def Zh(o n:Nat):T->Lac
 | .v (.c c)=>TW o n c
 | .v (.agg cs)=>Jo o n cs
 |_=>[]
def wnS(o n:Nat):Lab->Lab
 |[]=>[]
 |(k,t)::r=>(k,wnT o n t)::wnS o n r
def Lj(o n:Nat):Lab->Lac
 |[]=>[]
 |(_,t)::r=>Zh o n t++Lj o n r
def wnO(o n:Nat):Laa->Laa
 |[]=>[]
 |(k,.var t cs)::r=>(k,.var t (TU o n cs))::wnO o n r
 |p::r=>p::wnO o n r
def Jp(o n:Nat):Laa->Lac
 |[]=>[]
 |(_,.var _ cs)::r=>Jo o n cs++Jp o n r
 |_::r=>Jp o n r
theorem TT{o:Nat}{c:C}(he:Eqs (TW o n c))(h:cvC E w c u):cvC E w (wnC o n c) u:=by
 cases c with
 |w k m=>
  simp only[wnC,TW] at he ⊢
  cases hk:d0 k o with
  |false=>exact h
  |true=>rw[hk] at he;have:m=n:=he.1;simp_all
 |wn k m=>
  simp only[wnC,TW] at he ⊢
  cases hk:d0 k o with
  |false=>exact h
  |true=>rw[hk] at he;have:m=n:=he.1;simp_all
 |_=>exact h
theorem GG{E:Env}{w:World}{o n:Nat}:∀{cs:List C} {us:Lae},Eqs (Jo o n cs)->CV E w cs us->CV E w (TU o n cs) us
 |[],[],_,h=>h
 |[],_::_,_,h=>h.elim
 |_::_,[],_,h=>h.elim
 |_::_,_::_,he,h=>by obtain⟨h1,h2⟩:=dq he;exact⟨TT h1 h.1,GG h2 h.2⟩
theorem Zi{o:Nat}{t:T}(he:Eqs (Zh o n t))(h:cvT E w t u):cvT E w (wnT o n t) u:=by
 cases t with
 |v v=>
  cases v with
  |c c=>exact TT he h
  |agg cs=>obtain⟨arr,h1,h2⟩:=h;exact⟨arr,h1,GG he h2⟩
 |_=>exact h
theorem TS{o:Nat}{ob:Laa}(he:Eqs (Lj o n sl))(he2:Eqs (Jp o n ob)):cB N ⟨sl,ob,nx⟩ ⟨wnS o n sl,wnO o n ob,nx⟩:=by
 intro cx E a w hR
 refine⟨E,hR.ok,hR.dom,λp x h=>?_,λk=>?_,hR.dfr,hR.size,hR.td⟩
 .have key:∀(ob:Laa) (x:Ob),Eqs (Jp o n ob)->go (wnO o n ob) p=ς x->∃y,go ob p=ς y/\(cg E w p y->cg E w p x):=by
   intro ob
   induction ob with
   |nil=>intro x _ h;cases h
   |cons q r ih=>
    intro x he h
    obtain⟨k,v⟩:=q
    cases v with
    |var t cs=>
     obtain⟨h1,h2⟩:=dq (show Eqs (Jo o n cs++Jp o n r) from he)
     simp only[wnO,go] at h ⊢
     cases hk:d0 k p with
     |false=>simp_all
     |true=>
      rw[hk] at h
      cases h
      exact⟨_,rfl,λ⟨b,c,arr,k1,k2,k3,k4⟩=>⟨b,c,arr,k1,k2,GG h1 k3,k4⟩⟩
    |row t sz els g m=>
     simp only[wnO,go] at h ⊢
     cases hk:d0 k p with
     |false=>rw[hk] at h;exact ih x he h
     |true=>simp_all
    |rown t sz els g=>
     simp only[wnO,go] at h ⊢
     cases hk:d0 k p with
     |false=>rw[hk] at h;exact ih x he h
     |true=>simp_all
    |abs l y=>
     simp only[wnO,go] at h ⊢
     cases hk:d0 k p with
     |false=>rw[hk] at h;exact ih x he h
     |true=>simp_all
  obtain⟨y,h1,h2⟩:=key ob x he2 h
  exact h2 (hR.obs p y h1)
 have key:∀(sl:Lab),Eqs (Lj o n sl)->(cvT E w (gt sl k) (a.tmps.getD k undef)->cvT E w (gt (wnS o n sl) k) (a.tmps.getD k undef)):=by
  intro sl
  induction sl with
  |nil=>intro _ h;exact h
  |cons q r ih=>
   intro he h
   obtain⟨j,t⟩:=q
   obtain⟨h1,h2⟩:=dq (show Eqs (Zh o n t++Lj o n r) from he)
   simp only[wnS,gt] at h ⊢
   cases hj:d0 j k with
   |false=>simp_all
   |true=>rw[hj] at h;exact Zi h1 h
 exact key sl he (hR.sl k)
theorem clo_w{AQ:Exit->St->Prop}{e:Exit}[c:Clo N AQ](hw:cB N s m)(h:AQ e m):AQ e s:=c.h _ _ _ hw h
def nlC:C->C
 | .nil=>.d ζ (.l [])
 |c=>c
def Yb:List C->List C
 |[]=>[]
 |c::cs=>nlC c::Yb cs
def nlT:T->T
 | .v (.c c)=>.v (.c (nlC c))
 | .v (.agg cs)=>.v (.agg (Yb cs))
 |t=>t
theorem RO{c:C}(h:cvC E w c u):cvC E w (nlC c) u:=by
 cases c with
 |nil=>
  have h:u= .slice ξ 0 0:=h
  subst h
  show rdD _ _ _ _
  rw[rdD]
  simp_all
 |_=>exact h
theorem Mu{E:Env}{w:World}:∀{cs:List C} {us:Lae},CV E w cs us->CV E w (Yb cs) us
 |[],[],h=>h
 |[],_::_,h=>h.elim
 |_::_,[],h=>h.elim
 |_::_,_::_,h=>⟨RO h.1,Mu h.2⟩
theorem TP{ob:Laa}{t:T}(hk:gt sl k=t:=by exact rfl):cB N ⟨sl,ob,nx⟩ ⟨(k,nlT t)::sl,ob,nx⟩:=by
 intro cx E a w hR
 refine⟨E,hR.ok,hR.dom,hR.obs,λj=>?_,hR.dfr,hR.size,hR.td⟩
 by_cases hj:k=j
 .subst hj
  rw[cG]
  have:=hR.sl k
  rw[hk] at this
  cases t with
  |v v=>
   cases v with
   |c c=>exact RO this
   |agg cs=>obtain⟨arr,h1,h2⟩:=this;exact⟨arr,h1,Mu h2⟩
  |_=>exact this
 rw[b7 _ _ hj];exact hR.sl j
def vx(o n:Nat):Lab->Option Lab
 |[]=>ς []
 |(k,.v (.c c))::r=>match vx o n r with
  |some r'=>match c with
   | .w q m=>bif d0 q o then ς ((k,.v (.c (.w q n)))::r') else ς ((k,.v (.c (.w q m)))::r')
   | .wn q m=>bif d0 q o then ς ((k,.v (.c (.wn q n)))::r') else ς ((k,.v (.c (.wn q m)))::r')
   |c=>ς ((k,.v (.c c))::r')
  |none=>ξ
 |(k,t)::r=>match vx o n r with
  |some r'=>ς ((k,wnT o n t)::r')
  |none=>ξ
theorem Nr{o n:Nat}:∀{sl sl':Lab},vx o n sl=ς sl'->sl'=wnS o n sl
 |[],sl',h=>by simp[vx] at h;subst h;rfl
 |(k,t)::r,sl',h=>by
  cases hr:vx o n r with
  |none=>
   exfalso
   cases t with
   |v v=>cases v<;>simp[vx,hr] at h
   |tup vs=>simp[vx,hr] at h
   |any=>simp[vx,hr] at h
  |some r'=>
   have:=Nr hr
   subst this
   cases t with
   |v v=>
    cases v with
    |c c=>
     cases c with
     |w q m=>
      simp only[vx,hr] at h
      simp only[wnS,wnT,wnC]
      grind
     |wn q m=>
      simp only[vx,hr] at h
      simp only[wnS,wnT,wnC]
      grind
     |_=>simp only[vx,hr] at h;cases h;rfl
    |agg cs=>simp only[vx,hr] at h;cases h;rfl
   |tup vs=>simp only[vx,hr] at h;cases h;rfl
   |any=>simp only[vx,hr] at h;cases h;rfl
def Dq(o n:Nat):Laa->Option Laa
 |[]=>ς []
 |(k,.var t cs)::r=>match Dq o n r with
  |some r'=>ς ((k,.var t (TU o n cs))::r')
  |none=>ξ
 |p::r=>match Dq o n r with
  |some r'=>ς (p::r')
  |none=>ξ
theorem Nq{o n:Nat}:∀{sl sl':Laa},Dq o n sl=ς sl'->sl'=wnO o n sl
 |[],sl',h=>by simp[Dq] at h;subst h;rfl
 |(k,t)::r,sl',h=>by
  cases hr:Dq o n r with
  |none=>exfalso;cases t<;>simp[Dq,hr] at h
  |some r'=>
   have:=Nq hr
   subst this
   cases t<;>simp only[Dq,hr] at h<;>cases h<;>rfl
theorem qP{o:Nat}{ob:Laa}(hs:vx o n sl=ς sl':=by exact rfl)(ho:Dq o n ob=ς ob':=by exact rfl)(he:Eqs (Lj o n sl):=by repeat (first|exact θ|refine⟨by first|rfl|simp,?_⟩))(he2:Eqs (Jp o n ob):=by repeat (first|exact θ|refine⟨by first|rfl|simp,?_⟩)):cB N ⟨sl,ob,nx⟩ ⟨sl',ob',nx⟩:=by
 rw[Nr hs,Nq ho];exact TS he he2
section
variable{P:Program}{N:Nat}{d:Tmp}{ty:TypeId}{ps:String}{af:Array Edge}{gd:Option (Nat×Bool)}{x y z:Operand}
def Env.mv(E:Env)(o q b c:Nat):Env:={E with r:=λl=>if l=q then ς (b,c) else if l=o then ξ else E.r l}
theorem HU{by_ o:Nat}{ys:Lad}{c:C}[ht:da P t e sz by_](hrv:rsv o=η)(ho:go nob o=ς (.row e sz els g ζ))(hs:Src nob c ys gy)(hn:els.length=n)(hsz:∀e∈ys,e.length=sz)(hb:(n+ys.length)*by_<=140737488355328)(h63:n+ys.length<=9223372036854775807):
 AWK P ⟨ς d,.call ⟨.builtin .append,#[x,y],#[t,t]⟩,ty,ps,af,gd⟩ [(x,.v (.c (.w o n))),(y,.v (.c c))] nob (.v (.c (.w q (n+ys.length)))) [(q,.row e sz (els++ys) (g&&gy) ζ)] [] (ς o):=by
 intro cx E a w ok hne hnob hfr
 have hob:∀l x,go nob l=ς x->cg E w l x:=λl x h=>hnob l x (uR h)
 obtain⟨hq1,hq2⟩:=hfr q _ (.head _)
 have h1:cvT E w (.v (.c (.w o n))) (a.eval x):=hne x _ (.head _)
 have h2:cvT E w (.v (.c c)) (a.eval y):=hne y _ (.tail _ (.head _))
 obtain⟨b,cc,hr,hu⟩:=h1
 obtain⟨b',c',arr,hr',hh,ha,hlc,hmx,hes,hrd,hFm,_⟩:=hob o _ ho
 rw[hr] at hr';cases hr'
 have hF:=hFm rfl
 have hoq:o≠q:=λe=>by simp_all
 obtain⟨A,k,hv,hyk,hA⟩:=A3 hob hs h2
 obtain⟨ii,zz,i1,i2,i3,i4,i5⟩:=ht.i
 have hbl:=(ok.rb o b cc hr)
 have hown:w.ownsRow 0 e sz (.slice (ς ⟨b,0,ξ⟩) n cc) n (arr.toList.take (n*sz)):=
  ⟨by simp_all,.inr ⟨b,cc,arr,rfl,ZA _,hh,by omega,hmx,ha,rfl⟩⟩
 have hsrc:∃news:Lae,news.length=ys.length*sz/\(∀u∈news,u.oneCell'=ζ)/\(∀(j:Nat) (xd:D),ys.flatten[j]?=ς xd->∃u,news[j]?=ς u/\rdD w (E.H gy) xd u)/\
  ∃v' w',(Builtin.append_ #[t,t] ty #[.slice (ς ⟨b,0,ξ⟩) n cc,.slice A ys.length k]).run P w= .ok v' w'/\w'.ownsRow 0 e sz v' (n+ys.length) (arr.toList.take (n*sz)++news)/\w.grownBy w' (ς b)/\v'≠.slice ξ 0 0/\(v'.ownBlock=ς b\/v'.ownBlock=ς w.heap.size):=by
  have hgood:∀ad,A=ς ad->∀news:Lae,news.length=ys.length*sz->(∀(j:Nat) (u:Value),news[j]?=ς u->w.cell? (ad.add j)=ς u)->(∀u∈news,u.oneCell'=ζ)->
   ∃v' w',(Builtin.append_ #[t,t] ty #[.slice (ς ⟨b,0,ξ⟩) n cc,.slice A ys.length k]).run P w= .ok v' w'/\w'.ownsRow 0 e sz v' (n+ys.length) (arr.toList.take (n*sz)++news)/\w.grownBy w' (ς b)/\v'≠.slice ξ 0 0/\(v'.ownBlock=ς b\/v'.ownBlock=ς w.heap.size):=by
   intro ad hAd news n1 n2 n3
   obtain⟨v',w',r1,r2,r3,r4,r5⟩:=run_append_own_at (P:=P) w 0 t ty e ii zz sz by_ ht.u i1 i4 i2 i3 i5 ht.p _ n _ hown ad ys.length k news n1 n2 n3 (by unfold maxLen;omega) hb (ZA _)
   exact⟨v',w',by simp_all,r2,r3,(λh=>by simp_all),r5⟩
  rcases hA with h0|⟨b2,off,rfl,hrd2⟩
  .subst h0
   refine⟨[],by simp,by simp,by simp,?_⟩
   cases A with
   |none=>exact⟨_,w,qz w ht.u i1 hown k,by simp_all,⟨rfl,rfl,rfl,Zu _,λ_ _ _=>rfl⟩,by simp,.inl rfl⟩
   |some ad=>simp_all
  obtain⟨us,q1,q2,q3,q4⟩:=tc (eu.1 hrd2)
  exact⟨us,by rw[q1,eh hsz],q3,q4,hgood _ rfl us (by rw[q1,eh hsz]) q2 q3⟩
 obtain⟨news,n1,n2,n3,v',w',r1,r2,r3,r4,r5⟩:=hsrc
 obtain⟨_,r2⟩:=r2
 rcases r2 with⟨rfl,_⟩|⟨bn,cap,cur,rfl,_,hhn,hcap,hcapm,hcur,htk⟩
 .simp_all
 unfold Oper.wp
 simp only[execOp,resolve,invoke,builtin,Sem.run_bind,Sem.run_pure,Result.andThen_ok,aal,aac,aae,hu,hv,r1,Oper.upon_value]
 have hbn:bn=b\/bn=w.heap.size:=by simpa [Value.ownBlock] using r5
 have hsame:∀k,k<w.heap.size->k≠b->w'.heap[k]?=w.heap[k]?:=λk hk hne=>r3.block k hk (λe=>hne (by injection e))
 have hnF:¬E.F bn:=by
  rcases hbn with rfl|rfl
  .exact hF
  exact λh=>by have:=ok.fb _ h;omega
 have hbig:bn<w'.heap.size:=by
  rcases ZF bn w'.heap.size with h|h
  .exact h
  simp_all
 have hnew:∀l bl cl,l≠o->E.r l=ς (bl,cl)->bl≠bn:=by
  intro l bl cl hne hl e
  subst e
  rcases hbn with h|h
  .subst h;exact hne (ok.inj l o _ _ _ hl hr)
  have:=(ok.rb l bl cl hl).1;omega
 have hHb:∀(g:Bool) k,E.H g k->k≠b/\k<w.heap.size:=λg k hk=>⟨λe=>by subst e;cases g;exact hF hk;exact hF (ok.gf _ hk),ok.hb hk⟩
 have kH:∀(g:Bool) (k:Nat),E.H g k->w'.heap[k]?=w.heap[k]?:=λg k hk=>hsame k (hHb g k hk).2 (hHb g k hk).1
 have kI:∀(g:Bool) (k:Nat),E.H g k->(E.mv o q bn cap).H g k:=λ_ _ h=>h
 have hbnew:cx.In b:=by
  rcases hbl.2 with h|h
  .exact h
  simp_all
 have hmv:∀l bl cl,(E.mv o q bn cap).r l=ς (bl,cl)->(l=q/\bl=bn/\cl=cap)\/(l≠q/\l≠o/\E.r l=ς (bl,cl)):=by
  intro l bl cl hl
  simp only[Env.mv] at hl
  split at hl
  .simp_all
  simp_all
 refine⟨_,E.mv o q bn cap,rfl,⟨λk hk=>Zy (ok.fb k hk) r3.size,ok.gf,ok.gn,λl bl cl hl=>?_,λl l' bl cl cl' hl hl'=>?_,by rw[r3.os];exact ok.os,by rw[r3.tape];exact ok.tape,by rw[r3.output];exact ok.output,Zz ok.size r3.size,λk hk hW=>?_,λl xx hv hl=>?_,ok.ff,λk hk hk'=>(ok.gc k hk hk').of_eq (hsame k (hHb η k hk).2 (hHb η k hk).1),ok.sf.turn hr rfl rfl (λ_ h=>.inl h) (λl bl cl hl=>?_) r3.size hsame⟩,
  ⟨λl xx hl hlr=>?_,λ_ h=>h,λ_ h=>h,λ_ h=>.inl h,λk hk _ hkl=>hsame k hk (λe=>hkl o cc rfl (e▸hr)),(λ_ _ _ _ h=>by cases h),λl bl cl hl hlr=>?_,λ_ _ h=>h,λ_ _ h=>.inl h,rfl,rfl⟩,⟨bn,cap,by simp[Env.mv],rfl⟩,λl ob hm=>?_,(λ_ _ h=>by cases h),λl xx hl=>?_⟩
 .rcases hmv l bl cl hl with⟨_,rfl,rfl⟩|⟨_,_,hl⟩
  .refine⟨hbig,.inl ?_⟩
   rcases hbn with h|h
   .rw[h];exact hbnew
   exact .inl (by have:=ok.size;omega)
  have:=ok.rb l bl cl hl;exact⟨Zy this.1 r3.size,this.2⟩
 .rcases hmv l bl cl hl with⟨h1,h2,h3⟩|⟨h1,h2,h3⟩<;>rcases hmv l' bl cl' hl' with⟨k1,k2,k3⟩|⟨k1,k2,k3⟩
  .omega
  .grind
  .grind
  exact ok.inj l l' bl cl cl' h3 k3
 .rw[hsame k (by have:=ok.size;omega) (λe=>by subst e;exact hbnew.nw.elim (λ_=>by omega) hW)];exact ok.block k hk hW
 .obtain⟨bl,cl⟩:=xx
  rcases hmv l bl cl hl with⟨rfl,_⟩|⟨_,_,hl⟩
  .rw[mn hq2] at hv;cases hv
  exact ok.pin l _ hv hl
 .grind
 .simp only[Env.mv]
  grind
 .grind
 .simp at hm;obtain⟨rfl,rfl⟩:=hm
  have hall:∀e'∈els++ys,e'.length=sz:=λe' he'=>by
   grind
  refine⟨bn,cap,cur,by simp[Env.mv],hhn,hcur,by simp;omega,hcapm,hall,?_,λ_=>hnF,(λh=>by cases h),θ⟩
  rw[eu]
  refine lA λj xd hj=>?_
  rw[Zs,dw hhn]
  rw[aah] at hj
  have hfl:els.flatten.length=n*sz:=by rw[eh hes,hn]
  have hxs:(arr.toList.take (n*sz)).length=n*sz:=by simp[ha];rw[aag oaa]
  have hcurj:∀u,(arr.toList.take (n*sz)++news)[j]?=ς u->cur[j]?=ς u:=by
   intro u hu
   rw[<-htk,ZQ] at hu
   split at hu
   .simp_all
   cases hu
  by_cases hjn:j<n*sz
  .rw[Zt oaa] at hj
   obtain⟨u,u1,u2⟩:=iA (eu.1 hrd) hj
   rw[Zs,dw hh] at u1
   refine⟨u,hcurj u ?_,bP (kH _) (kI _) _ _ (mX ok u2 (by simp_all))⟩
   grind
  rw[Zr oaa,hfl] at hj
  obtain⟨u,u1,u2⟩:=n3 _ _ hj
  refine⟨u,hcurj u ?_,bP (kH _) (kI _) _ _ (mX ok u2 (by simp))⟩
  rw[Zr oaa,hxs]
  exact u1
 grind
theorem uq{by_:Nat}{ys:Lad}{c:C}[ht:da P t e sz by_](hs:Src nob c ys gy)(hne0:ys≠[])(hsz:∀e∈ys,e.length=sz)(hb:ys.length*by_<=140737488355328)(h63:ys.length<=9223372036854775807){cx:Cx}(ok:cF cx E w)(hob:∀l x,go nob l=ς x->cg E w l x)(hq1:E.r q=ξ)(hq2:rsv q=η)(hu:a.eval x= .slice ξ 0 0)(h2:cvT E w (.v (.c c)) (a.eval y)):
 Oper.wp P ⟨ς d,.call ⟨.builtin .append,#[x,y],#[t,t]⟩,ty,ps,af,gd⟩ a w (λa' w'=>∃v E',a'=a.put (ς d) v/\cF cx E' w'/\Ext E w E' w'/\cvT E' w' (.v (.c (.w q ys.length))) v/\(∀l ob,(l,ob)∈[(q,Ob.row e sz ys gy ζ)]->cg E' w' l ob)/\
  (∀l x,E'.r l=ς x->E.r l=ς x\/∃ob,(l,ob)∈[(q,Ob.row e sz ys gy ζ)])) (λ_ _ _=>False):=by
 obtain⟨A,k,hv,hyk,hA⟩:=A3 hob hs h2
 obtain⟨ii,zz,i1,i2,i3,i4,i5⟩:=ht.i
 have hown:=World.ownsRow_nil w 0 e sz
 rcases hA with h0|⟨b2,off,rfl,hrd2⟩
 .simp_all
 obtain⟨news,q1,q2,q3,n3⟩:=tc (eu.1 hrd2)
 have n1:news.length=ys.length*sz:=by rw[q1,eh hsz]
 obtain⟨v',w',r1,r2,r3,r4,r5⟩:=run_append_own_at (P:=P) w 0 t ty e ii zz sz by_ ht.u i1 i4 i2 i3 i5 ht.p _ 0 _ hown ⟨b2,off,ξ⟩ ys.length k news n1 q2 q3 (by unfold maxLen;omega) (by simp_all) (ZA _)
 have hnn:v'≠.slice ξ 0 0:=λh=>hne0 (ZS (r4.1 h).2)
 obtain⟨_,r2⟩:=r2
 rcases r2 with⟨rfl,_⟩|⟨bn,cap,cur,rfl,_,hhn,hcap,hcapm,hcur,htk⟩
 .simp_all
 simp only[Zs,aab] at r1 hcap htk hnn r4 r5
 unfold Oper.wp
 simp only[execOp,resolve,invoke,builtin,Sem.run_bind,Sem.run_pure,Result.andThen_ok,aal,aac,aae,hu,hv,r1,Oper.upon_value]
 have hbn:bn=w.heap.size:=by simpa [Value.ownBlock] using r5
 have hsame:∀k,k<w.heap.size->w'.heap[k]?=w.heap[k]?:=λk hk=>r3.block k hk (λe=>by simp[Value.ownBlock] at e)
 have hnF:¬E.F bn:=λh=>by have:=ok.fb _ h;omega
 have hbig:bn<w'.heap.size:=by
  rcases ZF bn w'.heap.size with h|h
  .exact h
  simp_all
 have kH:∀(g:Bool) (k:Nat),E.H g k->w'.heap[k]?=w.heap[k]?:=λg k hk=>hsame k (ok.hb hk)
 have kI:∀(g:Bool) (k:Nat),E.H g k->(E.new q bn cap).H g k:=λ_ _ h=>h
 have hmv:∀l bl cl,(E.new q bn cap).r l=ς (bl,cl)->(l=q/\bl=bn/\cl=cap)\/(l≠q/\E.r l=ς (bl,cl)):=by
  intro l bl cl hl
  simp only[Env.new] at hl
  split at hl
  .simp_all
  simp_all
 refine⟨_,E.new q bn cap,rfl,⟨λk hk=>Zy (ok.fb k hk) r3.size,ok.gf,ok.gn,λl bl cl hl=>?_,λl l' bl cl cl' hl hl'=>?_,by rw[r3.os];exact ok.os,by rw[r3.tape];exact ok.tape,by rw[r3.output];exact ok.output,Zz ok.size r3.size,λk hk hW=>?_,λl xx hv hl=>?_,ok.ff,λk hk hk'=>(ok.gc k hk hk').of_eq (hsame k (ok.fb k hk)),ok.sf.grow rfl rfl (λ_ h=>.inl h) (λl bl cl hl=>?_) r3.size hsame⟩,
  ⟨λl xx hlr=>?_,λ_ h=>h,λ_ h=>h,λ_ h=>.inl h,hsame,λ_ _ h=>h,λ_ _ h=>.inl h,rfl,rfl⟩,⟨bn,cap,by simp[Env.new],rfl⟩,λl ob hm=>?_,λl xx hl=>?_⟩
 .rcases hmv l bl cl hl with⟨_,rfl,rfl⟩|⟨_,hl⟩
  .exact⟨hbig,.inl (.inl (by rw[hbn];exact ok.size))⟩
  have:=ok.rb l bl cl hl;exact⟨Zy this.1 r3.size,this.2⟩
 .rcases hmv l bl cl hl with⟨h1,h2,h3⟩|⟨h1,h3⟩<;>rcases hmv l' bl cl' hl' with⟨k1,k2,k3⟩|⟨k1,k3⟩
  .omega
  .have:=(ok.rb l' bl cl' k3).1;omega
  .have:=(ok.rb l bl cl h3).1;omega
  exact ok.inj l l' bl cl cl' h3 k3
 .rw[hsame k (by have:=ok.size;omega)];exact ok.block k hk hW
 .obtain⟨bl,cl⟩:=xx
  rcases hmv l bl cl hl with⟨rfl,_⟩|⟨_,hl⟩
  .rw[mn hq2] at hv;cases hv
  exact ok.pin l _ hv hl
 .grind
 .simp only[Env.new]
  grind
 .simp at hm;obtain⟨rfl,rfl⟩:=hm
  refine⟨bn,cap,cur,by simp[Env.new],hhn,hcur,by omega,hcapm,hsz,?_,λ_=>hnF,(λh=>by cases h),θ⟩
  rw[eu]
  refine lA λj xd hj=>?_
  rw[Zs,dw hhn]
  obtain⟨u,u1,u2⟩:=n3 _ _ hj
  refine⟨u,?_,bP (kH _) (kI _) _ _ u2⟩
  grind
 grind
theorem FL{by_:Nat}{ys:Lad}{c:C}[ht:da P t e sz by_](hs:Src nob c ys gy)(hne0:ys≠[])(hsz:∀e∈ys,e.length=sz)(hb:ys.length*by_<=140737488355328)(h63:ys.length<=9223372036854775807):
 AWN P ⟨ς d,.call ⟨.builtin .append,#[x,y],#[t,t]⟩,ty,ps,af,gd⟩ [(x,.v (.c .nil)),(y,.v (.c c))] nob (.v (.c (.w q ys.length))) [(q,.row e sz ys gy ζ)]:=by
 intro cx E a w ok hne hnob hfr
 obtain⟨hq1,hq2⟩:=hfr q _ (.head _)
 exact uq hs hne0 hsz hb h63 ok (λl x h=>hnob l x (uR h)) hq1 hq2 (hne x _ (.head _)) (hne y _ (.tail _ (.head _)))
end
section
variable{P:Program}{N:Nat}{d:Tmp}{ty:TypeId}{ps:String}{af:Array Edge}{gd:Option (Nat×Bool)}{x y:Operand}{sl:Lab}{ob:Laa}{nx:Nat}{α:Type}{enc:α->List D}
theorem apx{by_ o:Nat}{ys zs:List α}{zd:Lad}{gg:Bool}{c:C}(ls:List Nat)[da P t e sz by_](H:cW by_ (ys++zs).length=ζ)(hzd:zs.map enc=zd:=by exact rfl)(henc:∀a,(enc a).length=sz:=by exact λ_=>rfl)(hp:oi ob ls=ς nob:=by exact rfl)(hd:nlt d N=true:=by exact rfl)(hx:opT sl x= .v (.c (.w o n)):=by exact rfl)(hy:opT sl y= .v (.c c):=by exact rfl)(hn:ys.length=n:=by first|rfl|simp)(hs:Src nob c zd gy:=by first|exact .d|exact .nil|exact .w rfl (by first|rfl|exact lm _|simp)|exact .wn rfl (by first|rfl|exact lm _|simp))(ho:go nob o=ς (.row e sz (ys.map enc) g ζ):=by exact rfl)(hg:(g&&gy)=gg:=by exact rfl)(hrv:rsv o=false:=by exact rfl)(hnx:nxt nx=ς nx':=by exact rfl):
 NX P N ⟨ς d,.call ⟨.builtin .append,#[x,y],#[t,t]⟩,ty,ps,af,gd⟩ ⟨sl,ob,nx⟩ ⟨(d,.v (.c (.w nx (ys++zs).length)))::sl,(nx,.row e sz ((ys++zs).map enc) gg ζ)::ob,nx'⟩
  ⟨⟨d,[(x,.v (.c (.w o n))),(y,.v (.c c))],nob,.v (.c (.w nx (ys++zs).length)),[(nx,.row e sz ((ys++zs).map enc) gg ζ)]⟩,[],ς o⟩:=by
 subst hzd;subst hg
 simp only[cW,decide_eq_true_eq,ZM] at H
 have:=HU (P:=P) (d:=d) (ty:=ty) (ps:=ps) (af:=af) (gd:=gd) (x:=x) (y:=y) (t:=t) (e:=e) (sz:=sz) (by_:=by_) (q:=nx) (n:=n) hrv ho hs (by simp_all) (FD henc zs) (by simp_all) (by simp_all)
 rw[<-aad,ZU,<-hn,<-ZM] at this
 exact⟨by simp_all,.inl ⟨rfl,bO hd⟩,⟨hx,hy,θ⟩,qs hp,ly hnx,rfl⟩
theorem E5{by_ o:Nat}{ys zs:List α}{zd:Lad}{c:C}(ls:List Nat)[da P t e sz by_](H:cW by_ (ys++zs).length=ζ)(hzd:zs.map enc=zd:=by exact rfl)(henc:∀a,(enc a).length=sz:=by exact λ_=>rfl)(hfl:∀a,qd (enc a)=true:=by exact λ_=>rfl)(hp:oi ob ls=ς nob:=by exact rfl)(hd:nlt d N=true:=by exact rfl)(hx:opT sl x= .v (.c (.w o n)):=by exact rfl)(hy:opT sl y= .v (.c c):=by exact rfl)(hn:ys.length=n:=by first|rfl|simp)(hs:Src nob c zd gy:=by first|exact .d|exact .nil|exact .w rfl (by first|rfl|exact lm _|simp)|exact .wn rfl (by first|rfl|exact lm _|simp))(ho:go nob o=ς (.row e sz (ys.map enc) g ζ):=by exact rfl)(hrv:rsv o=false:=by exact rfl)(hnx:nxt nx=ς nx':=by exact rfl):
 NX P N ⟨ς d,.call ⟨.builtin .append,#[x,y],#[t,t]⟩,ty,ps,af,gd⟩ ⟨sl,ob,nx⟩ ⟨(d,.v (.c (.w nx (ys++zs).length)))::sl,(nx,.row e sz ((ys++zs).map enc) ζ ζ)::ob,nx'⟩
  ⟨⟨d,[(x,.v (.c (.w o n))),(y,.v (.c c))],nob,.v (.c (.w nx (ys++zs).length)),[(nx,.row e sz ((ys++zs).map enc) ζ ζ)]⟩,[],ς o⟩:=by
 obtain⟨h1,h2,h3,h4,h5,h6⟩:=apx (P:=P) (N:=N) (t:=t) (x:=x) (y:=y) (enc:=enc) (d:=d) (ty:=ty) (ps:=ps) (af:=af) (gd:=gd) (sl:=sl) (ob:=ob) (nx:=nx) ls H hzd henc hp hd hx hy hn hs ho rfl hrv hnx
 refine⟨?_,h2,h3,h4,ly hnx,rfl⟩
 intro cx E a w ok hne hnob hfr
 refine Oper.wp_mono ?_ (h1 cx E a w ok hne hnob (λl x hm=>by simp_all))
 rintro a' w' ⟨v,E',k1,k2,k3,k4,k5,k6,k7⟩
 refine⟨v,E',k1,k2,k3,k4,λl x hm=>?_,k6,λl x hl=>(k7 l x hl).imp id (λ⟨x',hm⟩=>by simp_all)⟩
 simp at hm;obtain⟨rfl,rfl⟩:=hm
 obtain⟨b,c,arr,j1,j2,j3,j4,j5,j6,j7,j8,j9⟩:=k5 _ _ (.head _)
 refine⟨b,c,arr,j1,j2,j3,by simp_all,j5,by simp_all,?_,j8,(λh=>by cases h),θ⟩
 have:rdLL w' (E'.H ζ) ((ys++zs).map enc) b 0:=vL (λe he=>by grind) j7
 simp_all
end
theorem nE{o:Nat}{ob:Laa}{cs':List C}{e:Lac}(ho:go ob o=ς (.var ty cs):=by exact rfl)(hv:JV ob cs=ς (cs',e):=by exact rfl)(he:Eqs e:=by repeat (first|exact θ|refine⟨by first|rfl|exact lm _|simp,?_⟩)):cB N ⟨sl,ob,nx⟩ ⟨sl,(o,.var ty cs')::ob,nx⟩:=by
 intro cx E a w hR
 refine⟨E,hR.ok,hR.dom,λp x h=>?_,hR.sl,hR.dfr,hR.size,hR.td⟩
 by_cases hp:o=p
 .subst hp
  rw[bM] at h;cases h
  obtain⟨b,c,arr,h1,h2,h3,h4⟩:=hR.obs o _ ho
  exact⟨b,c,arr,h1,h2,Fc hR.obs hv he h3,h4⟩
 rw[a9 _ _ hp] at h;exact hR.obs p x h
theorem A6{ob:Laa}(h:Zw nx nx'=ζ):cB N ⟨sl,ob,nx⟩ ⟨sl,ob,nx'⟩:=by
 intro cx E a w hR
 have:=ZK h
 exact⟨E,hR.ok,λo x ho=>Zy (hR.dom o x ho) this,hR.obs,hR.sl,hR.dfr,hR.size,λl b hb=>Zy (hR.td l b hb) this⟩
theorem cF.setN{cx:Cx}(ok:cF cx E w)(n:Nat->Prop):cF cx {E with n:=n} w:=
 ⟨ok.fb,ok.gf,ok.gn,ok.rb,ok.inj,ok.os,ok.tape,ok.output,ok.size,ok.block,ok.pin,ok.ff,ok.gc,⟨ok.sf.tb,ok.sf.tt,ok.sf.zc,ok.sf.zs,ok.sf.ze⟩⟩
def jG(f:C->Option C):List C->Option (List C)
 |[]=>ς []
 |c::cs=>match f c,jG f cs with
  |some x,ς xs=>ς (x::xs)
  |_,_=>ξ
def Ay(f:C->Option C):V->Option V
 | .c c=>match f c with
  |some x=>ς (.c x)
  |none=>ξ
 | .agg cs=>match jG f cs with
  |some x=>ς (.agg x)
  |none=>ξ
def uV(f:C->Option C):List V->Option (List V)
 |[]=>ς []
 |c::cs=>match Ay f c,uV f cs with
  |some x,ς xs=>ς (x::xs)
  |_,_=>ξ
def sJ(f:C->Option C):T->Option T
 | .v v=>match Ay f v with
  |some x=>ς (.v x)
  |none=>ξ
 | .tup vs=>match uV f vs with
  |some x=>ς (.tup x)
  |none=>ξ
 | .any=>ς .any
def lL(f:C->Option C):Lab->Option Lab
 |[]=>ς []
 |(k,t)::r=>match sJ f t,lL f r with
  |some x,ς xs=>ς ((k,x)::xs)
  |_,_=>ξ
def kr(f:C->Option C)(g:Nat->Ob->Option Ob):Laa->Option Laa
 |[]=>ς []
 |(k,.var t cs)::r=>match jG f cs,kr f g r with
  |some x,ς xs=>ς ((k,.var t x)::xs)
  |_,_=>ξ
 |(k,.row t sz els gg m)::r=>match g k (.row t sz els gg m),kr f g r with
  |some x,ς xs=>ς ((k,x)::xs)
  |_,_=>ξ
 |(k,.rown t sz els gg)::r=>match g k (.rown t sz els gg),kr f g r with
  |some x,ς xs=>ς ((k,x)::xs)
  |_,_=>ξ
 |(k,.abs j y)::r=>match g k (.abs j y),kr f g r with
  |some x,ς xs=>ς ((k,x)::xs)
  |_,_=>ξ
section
variable{f:C->Option C}{E E':Env}{w w':World}(hf:∀c c' u,f c=ς c'->cvC E w c u->cvC E' w' c' u)
include hf
theorem oc:∀{cs cs':List C} {us:Lae},jG f cs=ς cs'->CV E w cs us->CV E' w' cs' us
 |[],cs',us,h,hc=>by
  simp[jG] at h;subst h
  cases us with
  |nil=>trivial
  |cons _ _=>exact hc.elim
 |c::cs,cs',us,h,hc=>by
  cases us with
  |nil=>exact hc.elim
  |cons u us=>
   simp only[jG] at h
   split at h
   .rename_i h1 h2;simp at h;subst h;exact⟨hf _ _ _ h1 hc.1,oc h2 hc.2⟩
   cases h
theorem Mm{v v':V}(h:Ay f v=ς v')(hv:cvV E w v u):cvV E' w' v' u:=by
 cases v with
 |c c=>
  simp only[Ay] at h
  split at h
  .rename_i h1;simp at h;subst h;exact hf _ _ _ h1 hv
  cases h
 |agg cs=>
  simp only[Ay] at h
  split at h
  .rename_i h1;simp at h;subst h;obtain⟨arr,hu,hc⟩:=hv;exact⟨arr,hu,oc hf h1 hc⟩
  cases h
theorem H5:∀{cs cs':List V} {us:Lae},uV f cs=ς cs'->VV E w cs us->VV E' w' cs' us
 |[],cs',us,h,hc=>by
  simp[uV] at h;subst h
  cases us with
  |nil=>trivial
  |cons _ _=>exact hc.elim
 |c::cs,cs',us,h,hc=>by
  cases us with
  |nil=>exact hc.elim
  |cons u us=>
   simp only[uV] at h
   split at h
   .rename_i h1 h2;simp at h;subst h;exact⟨Mm hf h1 hc.1,H5 h2 hc.2⟩
   cases h
theorem vS{v v':T}(h:sJ f v=ς v')(hv:cvT E w v u):cvT E' w' v' u:=by
 cases v with
 |v v=>
  simp only[sJ] at h
  split at h
  .rename_i h1;simp at h;subst h;exact Mm hf h1 hv
  cases h
 |tup vs=>
  simp only[sJ] at h
  split at h
  .rename_i h1;simp at h;subst h;obtain⟨arr,hu,hc⟩:=hv;exact⟨arr,hu,H5 hf h1 hc⟩
  cases h
 |any=>simp[sJ] at h;subst h;trivial
theorem tU{k:Nat}{u:Value}:∀{sl sl':Lab},lL f sl=ς sl'->cvT E w (gt sl k) u->cvT E' w' (gt sl' k) u
 |[],sl',h,_=>by simp[lL] at h;subst h;trivial
 |(j,t)::r,sl',h,hc=>by
  simp only[lL] at h
  split at h
  .rename_i h1 h2
   simp at h;subst h
   by_cases hj:j=k
   .subst hj;rw[cG] at hc ⊢;exact vS hf h1 hc
   rw[b7 _ _ hj] at hc ⊢;exact tU h2 hc
  cases h
end
theorem pf{f:C->Option C}{g:Nat->Ob->Option Ob}{l:Nat}{y:Ob}:∀{ob ob':Laa},kr f g ob=ς ob'->go ob' l=ς y->
 (∃t cs cs',go ob l=ς (.var t cs)/\jG f cs=ς cs'/\y= .var t cs')\/(∃x,go ob l=ς x/\(∀t cs,x≠.var t cs)/\g l x=ς y)
 |[],ob',h,hy=>by simp[kr] at h;subst h;cases hy
 |(k,x)::r,ob',h,hy=>by
  cases x with
  |var t cs=>
   simp only[kr] at h
   split at h
   .rename_i h1 h2
    simp at h;subst h
    by_cases hk:k=l
    .subst hk;rw[bM] at hy ⊢;grind
    rw[a9 _ _ hk] at hy ⊢;exact pf h2 hy
   cases h
  |row t sz els gg m=>
   simp only[kr] at h
   split at h
   .rename_i h1 h2
    simp at h;subst h
    by_cases hk:k=l
    .subst hk;rw[bM] at hy ⊢;simp_all
    rw[a9 _ _ hk] at hy ⊢;exact pf h2 hy
   cases h
  |rown t sz els gg=>
   simp only[kr] at h
   split at h
   .rename_i h1 h2
    simp at h;subst h
    by_cases hk:k=l
    .subst hk;rw[bM] at hy ⊢;simp_all
    rw[a9 _ _ hk] at hy ⊢;exact pf h2 hy
   cases h
  |abs j z=>
   simp only[kr] at h
   split at h
   .rename_i h1 h2
    simp at h;subst h
    by_cases hk:k=l
    .subst hk;rw[bM] at hy ⊢;simp_all
    rw[a9 _ _ hk] at hy ⊢;exact pf h2 hy
   cases h
def Do(o:Nat):C->Option C
 | .w l n=>match d0 l o with
  |true=>ς (.wn l n)
  |false=>ς (.w l n)
 | .wn l n=>match d0 l o with
  |true=>ς .any
  |false=>ς (.wn l n)
 |c=>ς c
def K8(o:Nat)(k:Nat):Ob->Option Ob
 | .row t sz els g ζ=>match d0 k o with
  |true=>ς (.rown t sz els g)
  |false=>ς (.row t sz els g ζ)
 |x=>ς x
theorem gA{rt:Nat}{g:Gr}{ob:Laa}(o:Nat)(ho:go ob o=ς (.row rt sz els g ζ):=by exact rfl)(hs:lL (Do o) sl=ς sl':=by exact rfl)(hb:kr (Do o) (K8 o) ob=ς ob':=by exact rfl):cB N ⟨sl,ob,nx⟩ ⟨sl',ob',nx⟩:=by
 intro cx E a w hR
 have hf:∀c c' u,Do o c=ς c'->cvC E w c u->cvC {E with n:=λl=>l≠o/\E.n l} w c' u:=by
  intro c c' u h hc
  cases c with
  |w l n=>
   simp only[Do] at h
   split at h
   .rename_i hb
    have:=Zo hb
    subst this
    cases h
    exact .inr ⟨λh=>h.1 rfl,hc⟩
   cases h;exact hc
  |wn l n=>
   simp only[Do] at h
   split at h
   .cases h;trivial
   rename_i hb
   have:=eR hb
   cases h
   rcases hc with⟨h1,h2⟩|⟨h1,h2⟩
   .exact .inl ⟨⟨this,h1⟩,h2⟩
   exact .inr ⟨λh=>h1 h.2,h2⟩
  |_=>simp only[Do] at h;cases h;exact hc
 refine⟨{E with n:=λl=>l≠o/\E.n l},hR.ok.setN _,hR.dom,λl y hl=>?_,λk=>tU hf hs (hR.sl k),hR.dfr,hR.size,hR.td⟩
 rcases pf hb hl with⟨t,cs,cs',h1,h2,rfl⟩|⟨x,h1,h2,h3⟩
 .obtain⟨b,c,arr,k1,k2,k3,k4⟩:=hR.obs l _ h1
  exact⟨b,c,arr,k1,k2,oc hf h2 k3,k4⟩
 have hx:=hR.obs l x h1
 cases x with
 |var t cs=>simp_all
 |row t sz els g m=>
  cases m with
  |true=>
   simp only[K8] at h3
   split at h3
   .rename_i hb
    have:=Zo hb
    subst this
    cases h3
    obtain⟨b,c,arr,k1,k2,k3,k4,k5,k6,k7,k8,_,k9⟩:=hx
    exact .inr ⟨λh=>h.1 rfl,b,c,arr,k1,k2,k3,k4,k5,k6,k7,k8 rfl,Cp rfl k9⟩
   cases h3;exact hx
  |false=>simp only[K8] at h3;cases h3;exact hx
 |rown t sz els g=>
  simp only[K8] at h3
  cases h3
  have hlo:l≠o:=λe=>by simp_all
  rcases hx with⟨k1,k2⟩|⟨k1,k2⟩
  .exact .inl ⟨⟨hlo,k1⟩,k2⟩
  exact .inr ⟨λh=>k1 h.2,k2⟩
 |abs j y=>
  simp only[K8] at h3
  cases h3
  have hlo:l≠o:=λe=>by simp_all
  rcases hx with⟨k1,k2⟩|⟨k1,k2⟩
  .exact .inl ⟨⟨hlo,k1⟩,k2⟩
  exact .inr ⟨λh=>k1 h.2,k2⟩
def y9(o:Nat):C->Option C
 | .wn l n=>match d0 l o with
  |true=>ς (.w l n)
  |false=>ς (.wn l n)
 |c=>ς c
def Dp(o:Nat)(k:Nat):Ob->Option Ob
 | .rown t sz els g=>match d0 k o with
  |true=>ς (.row t sz els g ζ)
  |false=>ς (.rown t sz els g)
 |x=>ς x
theorem vw{ty:Nat}{ob:Laa}(o:Nat)(ho:go ob o=ς (.rown ty sz els g):=by exact rfl)(hne:els≠[])(hs:lL (y9 o) sl=ς sl':=by exact rfl)(hb:kr (y9 o) (Dp o) ob=ς ob':=by exact rfl):cB N ⟨sl,ob,nx⟩ ⟨sl',ob',nx⟩:=by
 intro cx E a w hR
 have hn:¬E.n o:=by
  rcases hR.obs o _ ho with⟨_,h⟩|⟨h,_⟩
  .simp_all
  exact h
 have hf:∀c c' u,y9 o c=ς c'->cvC E w c u->cvC E w c' u:=by
  intro c c' u h hc
  cases c with
  |wn l n=>
   simp only[y9] at h
   split at h
   .rename_i hb
    have:=Zo hb
    subst this
    cases h
    rcases hc with⟨h1,_⟩|⟨_,h2⟩
    .simp_all
    exact h2
   simp_all
  |_=>simp only[y9] at h;simp_all
 refine⟨E,hR.ok,hR.dom,λl y hl=>?_,λk=>tU hf hs (hR.sl k),hR.dfr,hR.size,hR.td⟩
 rcases pf hb hl with⟨t,cs,cs',h1,h2,rfl⟩|⟨x,h1,h2,h3⟩
 .obtain⟨b,c,arr,k1,k2,k3,k4⟩:=hR.obs l _ h1
  exact⟨b,c,arr,k1,k2,oc hf h2 k3,k4⟩
 have hx:=hR.obs l x h1
 cases x with
 |var t cs=>simp_all
 |row t sz els g m=>simp only[Dp] at h3;simp_all
 |rown t sz els g=>
  simp only[Dp] at h3
  split at h3
  .rename_i hb
   have:=Zo hb
   subst this
   cases h3
   rcases hx with⟨k1,k2⟩|⟨_,b,c,arr,k1,k2,k3,k4,k5,k6,k7,k8⟩
   .simp_all
   exact⟨b,c,arr,k1,k2,k3,k4,k5,k6,k7,λ_=>k8.1,(λh=>by cases h),Cp rfl k8.2⟩
  simp_all
 |abs j y=>simp only[Dp] at h3;simp_all
def uF(n:Nat):Lab->Bool
 |[]=>ζ
 |(_,t)::r=>t.lt n&&uF n r
def oR(n:Nat):Laa->Bool
 |[]=>ζ
 |(l,x)::r=>(nlt l n&&x.lt n)&&oR n r
theorem M7{n:Nat}:∀{sl:Lab} (k:Nat),uF n sl=ζ->(gt sl k).lt n=ζ
 |[],k,_=>rfl
 |(j,t)::r,k,h=>by
  simp only[uF,hV] at h
  by_cases hj:j=k
  .subst hj;rw[cG];exact h.1
  rw[b7 _ _ hj];exact M7 k h.2
theorem qo{n:Nat}:∀{ob:Laa} {l:Nat} {x:Ob},oR n ob=ζ->go ob l=ς x->l<n/\x.lt n=ζ
 |(k,y)::r,l,x,h,hl=>by
  simp only[oR,hV] at h
  by_cases hk:k=l
  .subst hk;rw[bM] at hl;cases hl;exact⟨bO h.1.1,h.1.2⟩
  rw[a9 _ _ hk] at hl;exact qo h.2 hl
section
variable{E:Env}{w:World}{n:Nat}{p:Nat->Prop}(hp:∀l,l<n->(p l↔E.n l))
include hp
theorem Ha{c:C}(hl:c.lt n=ζ)(h:cvC E w c u):cvC {E with n:=p} w c u:=by
 cases c with
 |wn o m=>
  have:=hp o (bO hl)
  rcases h with⟨h1,h2⟩|⟨h1,h2⟩
  .exact .inl ⟨this.2 h1,h2⟩
  exact .inr ⟨λk=>h1 (this.1 k),h2⟩
 |_=>exact h
theorem EQ:∀{cs:List C} {us:Lae},cs.all (C.lt n)=ζ->CV E w cs us->CV {E with n:=p} w cs us
 |[],[],_,_=>trivial
 |c::cs,u::us,hl,h=>by
  simp only[ZR,hV] at hl
  exact⟨Ha hp hl.1 h.1,EQ hl.2 h.2⟩
 |[],_::_,_,h=>h.elim
 |_::_,[],_,h=>h.elim
theorem Hb{v:V}(hl:v.lt n=ζ)(h:cvV E w v u):cvV {E with n:=p} w v u:=by
 cases v with
 |c c=>exact Ha hp hl h
 |agg cs=>obtain⟨arr,hu,h⟩:=h;exact⟨arr,hu,EQ hp hl h⟩
theorem Lp:∀{cs:List V} {us:Lae},cs.all (V.lt n)=ζ->VV E w cs us->VV {E with n:=p} w cs us
 |[],[],_,_=>trivial
 |c::cs,u::us,hl,h=>by
  simp only[ZR,hV] at hl
  exact⟨Hb hp hl.1 h.1,Lp hl.2 h.2⟩
 |[],_::_,_,h=>h.elim
 |_::_,[],_,h=>h.elim
theorem Qh{t:T}(hl:t.lt n=ζ)(h:cvT E w t u):cvT {E with n:=p} w t u:=by
 cases t with
 |v v=>exact Hb hp hl h
 |tup ts=>obtain⟨arr,hu,h⟩:=h;exact⟨arr,hu,Lp hp hl h⟩
 |any=>trivial
theorem Kw{o:Nat}(ho:o<n)(hl:x.lt n=ζ)(h:cg E w o x):cg {E with n:=p} w o x:=by
 cases x with
 |var t cs=>obtain⟨b,c,arr,k1,k2,k3,k4⟩:=h;exact⟨b,c,arr,k1,k2,EQ hp hl k3,k4⟩
 |row t sz els g m=>exact h
 |rown t sz els g=>
  rcases h with⟨h1,h2⟩|⟨h1,h2⟩
  .exact .inl ⟨(hp o ho).2 h1,h2⟩
  exact .inr ⟨λk=>h1 ((hp o ho).1 k),h2⟩
 |abs j y=>
  rcases h with⟨h1,h2⟩|⟨h1,h2⟩
  .exact .inl ⟨(hp o ho).2 h1,h2⟩
  exact .inr ⟨λk=>h1 ((hp o ho).1 k),h2⟩
end
theorem Kx{ty sz:Nat}{g:Bool}{ob:Laa}(hs:uF nx sl=ζ)(hb:oR nx ob=ζ)(hq:nxt nx=ς nx'){cx:Cx}(hR:Rel N cx E ⟨sl,ob,nx⟩ a w):
 Rel N cx {E with n:=λl=>l=nx\/E.n l} ⟨sl,(nx,.rown ty sz [] g)::ob,nx'⟩ a w:=by
 have hp:∀l,l<nx->((l=nx\/E.n l)↔E.n l):=λl h=>⟨λk=>k.resolve_left oaa,.inr⟩
 have hn:nx'=nx+1:=by
  unfold nxt at hq
  cases hr:rsv nx with
  |true=>simp_all
  |false=>simp_all
 refine⟨hR.ok.setN _,λo x h=>by have:=hR.dom o x h;grind,λl x hl=>?_,λk=>Qh hp (M7 k hs) (hR.sl k),hR.dfr,hR.size,λl b h=>by have:=hR.td l b h;grind⟩
 by_cases e:nx=l
 .subst e;rw[bM] at hl;cases hl;exact .inl ⟨.inl rfl,rfl⟩
 rw[a9 _ _ e] at hl
 obtain⟨h1,h2⟩:=qo hb hl
 exact Kw hp h1 h2 (hR.obs l x hl)
theorem TR{ob:Laa}(ty sz:Nat)(g:Bool)(hk:gt sl k= .v (.c .nil):=by exact rfl)(hs:uF nx sl=true:=by exact rfl)(hb:oR nx ob=true:=by exact rfl)(hq:nxt nx=ς nx':=by exact rfl):
 cB N ⟨sl,ob,nx⟩ ⟨(k,.v (.c (.wn nx 0)))::sl,(nx,.rown ty sz [] g)::ob,nx'⟩:=by
 intro cx E a w hR
 have h:=Kx (ty:=ty) (sz:=sz) (g:=g) hs hb hq hR
 refine⟨_,h.ok,h.dom,h.obs,λj=>?_,h.dfr,h.size,h.td⟩
 by_cases e:k=j
 .subst e
  rw[cG]
  have:=hR.sl k
  rw[hk] at this
  exact .inl ⟨.inl rfl,rfl,this⟩
 rw[b7 _ _ e];exact h.sl j
def AC:Nat->C->List C->Option (List C)
 |0,x,.nil::cs=>ς (x::cs)
 |j+1,x,c::cs=>match AC j x cs with
  |some r=>ς (c::r)
  |none=>ξ
 |_,_,_=>ξ
theorem yP{E E':Env}{w:World}{x:C}(hx:cvC E' w x (.slice ξ 0 0)):∀{j:Nat} {cs cs':List C} {us:Lae},AC j x cs=ς cs'->CV E w cs us->CV E' w cs us->CV E' w cs' us
 |0,.nil::cs,cs',us,h,h1,h2=>by
  simp[AC] at h;subst h
  cases us with
  |nil=>exact h1.elim
  |cons u us=>have:u= .slice ξ 0 0:=h1.1;subst this;exact⟨hx,h2.2⟩
 |j+1,c::cs,cs',us,h,h1,h2=>by
  simp only[AC] at h
  split at h
  .rename_i h3
   simp at h;subst h
   cases us with
   |nil=>exact h1.elim
   |cons u us=>exact⟨h2.1,yP hx h3 h1.2 h2.2⟩
  cases h
theorem TQ{ob:Laa}{cs':List C}(ty sz:Nat)(g:Bool)(hk:gt sl k= .v (.agg cs):=by exact rfl)(hj:AC j (.wn nx 0) cs=ς cs':=by exact rfl)(hs:uF nx sl=true:=by exact rfl)(hb:oR nx ob=true:=by exact rfl)(hq:nxt nx=ς nx':=by exact rfl):
 cB N ⟨sl,ob,nx⟩ ⟨(k,.v (.agg cs'))::sl,(nx,.rown ty sz [] g)::ob,nx'⟩:=by
 intro cx E a w hR
 have h:=Kx (ty:=ty) (sz:=sz) (g:=g) hs hb hq hR
 refine⟨_,h.ok,h.dom,h.obs,λi=>?_,h.dfr,h.size,h.td⟩
 by_cases e:k=i
 .subst e
  rw[cG]
  have h1:=hR.sl k
  have h2:=h.sl k
  rw[hk] at h1 h2
  obtain⟨arr,hu,h1⟩:=h1
  obtain⟨arr',hu',h2⟩:=h2
  rw[hu] at hu';cases hu'
  exact⟨arr,hu,yP (x:=.wn nx 0) (Or.inl ⟨Or.inl rfl,rfl,rfl⟩) hj h1 h2⟩
 rw[b7 _ _ e];exact h.sl i
theorem dY{o:Nat}{ob:Laa}{vt:TypeId}{cs':List C}(ty sz:Nat)(g:Bool)(ho:go ob o=ς (.var vt cs):=by exact rfl)(hj:AC j (.wn nx 0) cs=ς cs':=by exact rfl)(hs:uF nx sl=true:=by exact rfl)(hb:oR nx ob=true:=by exact rfl)(hq:nxt nx=ς nx':=by exact rfl):
 cB N ⟨sl,ob,nx⟩ ⟨sl,(o,.var vt cs')::(nx,.rown ty sz [] g)::ob,nx'⟩:=by
 intro cx E a w hR
 have h:=Kx (ty:=ty) (sz:=sz) (g:=g) hs hb hq hR
 refine⟨_,h.ok,h.dom,λl x hl=>?_,h.sl,h.dfr,h.size,h.td⟩
 by_cases e:o=l
 .subst e
  rw[bM] at hl;cases hl
  have hne:nx≠o:=λe=>by have:=(qo hb ho).1;omega
  have h2:=h.obs o (.var vt cs) (by rw[a9 _ _ hne];exact ho)
  obtain⟨b,c,arr,k1,k2,k3,k4⟩:=hR.obs o _ ho
  obtain⟨b',c',arr',m1,m2,m3,m4⟩:=h2
  have k1':E.r o=ς (b',c'):=m1
  rw[k1] at k1';cases k1'
  rw[k2] at m2;cases m2
  exact⟨b,c,arr,k1,k2,yP (x:=.wn nx 0) (Or.inl ⟨Or.inl rfl,rfl,rfl⟩) hj k3 m3,k4⟩
 rw[a9 _ _ e] at hl;exact h.obs l x hl
section
variable{P:Program}{N:Nat}{d:Tmp}{ty:TypeId}{ps:String}{af:Array Edge}{gd:Option (Nat×Bool)}{x y z:Operand}{sl:Lab}{ob:Laa}{nx:Nat}
theorem RA{d:Option Tmp}{o by_:Nat}[ht:da P t e sz by_]:AWN P ⟨d,.call ⟨.builtin .len,#[x],#[t]⟩,ty,ps,af,gd⟩ [(x,.v (.c (.wn o n)))] [] (tI n) []:=
 cf λE ac w hn _=>by
  rcases hn x _ (.head _) with⟨_,h0,hu⟩|⟨_,b,c,hr,hu⟩
  .subst h0;exact⟨_,by simp[execOp,resolve,invoke,builtin,hu,Builtin.len_,underlying,ht.u,goInt];rfl,by rfl⟩
  exact⟨_,by simp[execOp,resolve,invoke,builtin,hu,Builtin.len_,underlying,ht.u,goInt];rfl,by rfl⟩
theorem lwn{o by_:Nat}[da P t e sz by_](hx:opT sl x= .v (.c (.wn o n)))(hN:nlt d N=ζ):NS0 P N ⟨ς d,.call ⟨.builtin .len,#[x],#[t]⟩,ty,ps,af,gd⟩ sl ob nx d (tI n) ⟨d,[(x,.v (.c (.wn o n)))],[],tI n,[]⟩:=c9 (st:=⟨sl,ob,nx⟩) RA rfl hN ⟨hx,θ⟩ trivial rfl
theorem If{by_ o:Nat}{ys:Lad}{c:C}[ht:da P t e sz by_](hrv:rsp o=η)(hnv:rsv st.nx=η)(hd:d<N)(hx:opT st.sl x= .v (.c (.wn o n)))(hy:opT st.sl y= .v (.c c))(ho:go st.ob o=ς (.rown e sz els g))(hs:Src st.ob c ys gy)(hk:gI o st.sl=ς sl')(hkb:gP o st.ob=ς ob')(hn:els.length=n)(hne:ys≠[])(hol:o<st.nx)(hsz:∀e∈ys,e.length=sz)(hb:(n+ys.length)*by_<=140737488355328)(h63:n+ys.length<=9223372036854775807):
 AWO P N ⟨ς d,.call ⟨.builtin .append,#[x,y],#[t,t]⟩,ty,ps,af,gd⟩ st ⟨(d,.v (.c (.w o (n+ys.length))))::sl',(o,.row e sz (els++ys) (g&&gy) ζ)::ob',st.nx⟩:=by
 intro cx E a w hR
 have h1:=hR.op x;rw[hx] at h1
 have h2:=hR.op y;rw[hy] at h2
 have h3:=hR.obs o _ ho
 rcases h1 with⟨hE,h0,hu⟩|⟨hE,b,cc,hr,hu⟩
 .subst h0
  have hels:els=[]:=ZS hn
  subst hels
  have hq1:E.r st.nx=none:=by
   cases hq:E.r st.nx with
   |none=>rfl
   |some p=>have:=hR.dom _ _ hq;omega
  have hoq:o≠st.nx:=by omega
  refine Oper.wp_mono ?_ (uq (P:=P) (d:=d) (ty:=ty) (ps:=ps) (af:=af) (gd:=gd) (t:=t) (q:=st.nx) hs hne hsz (by simp_all) oaa hR.ok hR.obs hq1 hnv hu h2)
  rintro a' w' ⟨v,E1,rfl,ok1,ext,hv,hob1,hdom⟩
  obtain⟨bn,cap,hrq,hvu⟩:=hv
  obtain⟨bn',cap',arr,hrq',hhn,j3,j4,j5,j6,j7,j8,_⟩:=hob1 _ _ (.head _)
  rw[hrq] at hrq';cases hrq'
  have hrE:∀l p,E1.r l=ς p->l=st.nx\/E.r l=ς p:=λl p h=>by
   grind
  let E2:Env:={E1 with r:=λl=>if l=o then ς (bn,cap) else if l=st.nx then ξ else E1.r l,T:=λl b=>l≠st.nx/\E1.T l b,n:=λl=>l≠o/\E.n l}
  have hr2:∀l b c,E2.r l=ς (b,c)->(l=o/\b=bn/\c=cap)\/(l≠o/\l≠st.nx/\E1.r l=ς (b,c)):=by
   intro l b c h
   have h:(if l=o then ς (bn,cap) else if l=st.nx then ξ else E1.r l)=ς (b,c):=h
   split at h
   .simp_all
   simp_all
  have hback:∀l b c,E2.r l=ς (b,c)->∃l',E1.r l'=ς (b,c):=by
   intro l b c h
   rcases hr2 l b c h with⟨_,rfl,rfl⟩|⟨_,_,h⟩
   .grind
   grind
  have ok2:cF cx E2 w':=by
   refine⟨ok1.fb,ok1.gf,ok1.gn,λl b c h=>?_,λl l' b c c' h h'=>?_,ok1.os,ok1.tape,ok1.output,ok1.size,ok1.block,λl p hv h=>?_,ok1.ff,ok1.gc,⟨λl b h=>?_,λl l' b h h'=>ok1.sf.tt l l' b h.2 h'.2,λb h=>?_,ok1.sf.zs,ok1.sf.ze⟩⟩
   .rcases hr2 l b c h with⟨_,rfl,rfl⟩|⟨_,_,h⟩
    .obtain⟨k1,k2⟩:=ok1.rb _ _ _ hrq
     simp_all
    exact ok1.rb l b c h
   .rcases hr2 l b c h with⟨rfl,rfl,rfl⟩|⟨k1,k2,k3⟩<;>rcases hr2 l' _ c' h' with⟨rfl,e1,e2⟩|⟨m1,m2,m3⟩
    .rfl
    .exact absurd (ok1.inj _ _ _ _ _ m3 hrq) m2
    .subst e1;exact absurd (ok1.inj _ _ _ _ _ k3 hrq) k2
    exact ok1.inj _ _ _ _ _ k3 m3
   .obtain⟨b,c⟩:=p
    rcases hr2 l b c h with⟨rfl,_⟩|⟨_,_,h⟩
    .simp_all
    exact ok1.pin l _ hv h
   .obtain⟨k1,k2,k3,k4⟩:=ok1.sf.tb l b h.2
    grind
   obtain⟨k1,k2,k3,k4⟩:=ok1.sf.zc b h
   grind
  have kp:=gb.of_ext hR.ok ext
  have kb:eg o E w E2 w':=⟨λl p hl h=>by
   show(if l=o then ς (bn,cap) else if l=st.nx then ξ else E1.r l)=ς p
   rw[if_neg hl,if_neg (λe=>by simp_all)]
   exact kp.r _ _ h,kp.H,kp.heap,λl b h=>⟨⟨λe=>by have:=hR.td l b h;omega,(kp.T l b h).1⟩,(kp.T l b h).2⟩,kp.Z,λl hl=>⟨λh=>h.2,λh=>⟨hl,h⟩⟩⟩
  have hFb:∀b,b<w.heap.size->¬E.F b->¬E2.F b:=λb hb hn h=>(ext.F' b h).elim hn oaa
  refine⟨E2,ok2,λl p h=>?_,λl ob hl=>?_,λk=>?_,hR.dfr,by simpa [Act.put] using hR.size,λl b h=>(ext.T' l b h.2).elim (hR.td l b) λ⟨k0,x,k⟩=>(hrE _ _ k).elim (λe=>absurd e h.1) λe=>by rw[k0] at e;cases e⟩
  .obtain⟨b,c⟩:=p
   rcases hr2 l b c h with⟨rfl,_⟩|⟨_,k2,h⟩
   .exact hol
   rcases hrE _ _ h with h|h
   .omega
   exact hR.dom _ _ h
  .by_cases hlo:o=l
   .subst hlo
    rw[bM] at hl;cases hl
    refine⟨bn,cap,arr,by grind,hhn,j3,by simp_all,j5,by simp_all,?_,λ_=>j8 rfl,(λh=>by cases h),θ⟩
    simp only[aab]
    exact bS (λ_ _=>rfl) (λb hb=>by cases g<;>cases gy<;>first|exact hb|exact ok1.gf b hb) rfl _ _ j7
   rw[a9 _ _ hlo] at hl
   rcases n9 hkb hl with⟨t',cs,cs',k1,k2,rfl⟩|⟨t',sz',els',g',m',k1,rfl⟩|⟨t',sz',els',g',k1,rfl⟩|⟨j',y',k1,rfl⟩
   .obtain⟨bl,cl,arrl,l1,l2,l3,l4⟩:=hR.obs l _ k1
    have hbl:=(hR.ok.rb _ _ _ l1).1
    exact⟨bl,cl,arrl,kb.r _ _ (Ne.symm hlo) l1,(ext.heap bl hbl).trans l2,pG kb k2 l3,hFb bl hbl l4⟩
   .obtain⟨bl,cl,arrl,l1,l2,l3,l4,l5,l6,l7,l8,l9⟩:=hR.obs l _ k1
    have hbl:=(hR.ok.rb _ _ _ l1).1
    have hb2:=ext.heap bl hbl
    exact⟨bl,cl,arrl,kb.r _ _ (Ne.symm hlo) l1,hb2.trans l2,l3,l4,l5,l6,bS (kb.hp _) (kb.HH _) hb2 _ _ l7,λhm=>hFb bl hbl (l8 hm),λhm=>⟨kb.H η _ (l9.1 hm).1,λhg=>kb.H ζ _ ((l9.1 hm).2 hg)⟩,kU kb hb2 l9.2⟩
   .rcases hR.obs l _ k1 with⟨m1,m2⟩|⟨l0,bl,cl,arrl,l1,l2,l3,l4,l5,l6,l7,l8⟩
    .exact .inl ⟨⟨Ne.symm hlo,m1⟩,m2⟩
    have hbl:=(hR.ok.rb _ _ _ l1).1
    have hb2:=ext.heap bl hbl
    exact .inr ⟨λh=>l0 h.2,bl,cl,arrl,kb.r _ _ (Ne.symm hlo) l1,hb2.trans l2,l3,l4,l5,l6,bS (kb.hp _) (kb.HH _) hb2 _ _ l7,hFb bl hbl l8.1,kU kb hb2 l8.2⟩
   rcases hR.obs l _ k1 with⟨m1,m2⟩|⟨l0,bl,cl,l1,l2,l3⟩
   .exact .inl ⟨⟨Ne.symm hlo,m1⟩,m2⟩
   have hbl:=(hR.ok.rb _ _ _ l1).1
   have hb2:=ext.heap bl hbl
   exact .inr ⟨λh=>l0 h.2,bl,cl,kb.r _ _ (Ne.symm hlo) l1,y'.st _ _ _ _ _ _ l2 (λk hk=>(kb.T _ k hk).1) hb2 (λk hk=>(kb.T _ k hk).2),hFb bl hbl l3⟩
  rw[eK (by rw[hR.size];exact hd)]
  by_cases hdk:d=k
  .subst hdk;rw[cG,if_pos rfl];exact⟨bn,cap,by grind,by simp_all⟩
  rw[b7 _ _ hdk,if_neg hdk]
  rcases qj hk k with h|⟨h,h'⟩
  .rw[h];trivial
  rw[h];exact xV kb h' (hR.sl k)
 rcases h3 with⟨hE',_⟩|⟨_,b',c',arr,hr',hh,ha,hlc,hmx,hes,hrd,hF⟩
 .simp_all
 rw[hr] at hr';cases hr'
 exact Ac hR hrv hd hr hu hh ha hlc hmx hes hrd hF.1 hy hs hk hkb hn hsz hb h63
variable{α:Type}{enc:α->List D}
theorem GU{by_ o:Nat}{ys zs:List α}{zd:Lad}{gg:Bool}{c:C}[da P t e sz by_](H:cW by_ (ys++zs).length=ζ)(hne:zs≠[])(hzd:zs.map enc=zd)(henc:∀a,(enc a).length=sz)(hn:ys.length=n)(hs:Src ob c zd gy)(hd:nlt d N=ζ)(hx:opT sl x= .v (.c (.wn o n)))(hy:opT sl y= .v (.c c))(ho:go ob o=ς (.rown e sz (ys.map enc) g))(hk:gI o sl=ς sl')(hkb:gP o ob=ς ob')(hg:(g&&gy)=gg)(hrv:rsp o=η)(hnv:rsv nx=η)(hol:nlt o nx=ζ):
 AWO P N ⟨ς d,.call ⟨.builtin .append,#[x,y],#[t,t]⟩,ty,ps,af,gd⟩ ⟨sl,ob,nx⟩ ⟨(d,.v (.c (.w o (ys++zs).length)))::sl',(o,.row e sz ((ys++zs).map enc) gg ζ)::ob',nx⟩:=by
 subst hzd;subst hg
 simp only[cW,decide_eq_true_eq,ZM] at H
 have:=If (st:=⟨sl,ob,nx⟩) (P:=P) (N:=N) (d:=d) (ty:=ty) (ps:=ps) (af:=af) (gd:=gd) (t:=t) (e:=e) (sz:=sz) (by_:=by_) hrv hnv (bO hd) hx hy ho hs hk hkb (by simp_all) (by simp_all) (bO hol) (FD henc zs) (by simp_all) (by simp_all)
 simp_all
end
def Az(p q:Nat):C->Option C
 | .w l n=>match d0 l p,d0 l q with
  |true,_=>ς .any
  |false,ζ=>ς (.w p n)
  |false,η=>ς (.w l n)
 | .wn l n=>match d0 l p,d0 l q with
  |true,_=>ς .any
  |false,ζ=>ς (.wn p n)
  |false,η=>ς (.wn l n)
 | .s l a b c=>match d0 l p,d0 l q with
  |true,_=>ς .any
  |false,ζ=>ς (.s p a b c)
  |false,η=>ς (.s l a b c)
 | .p l k=>match d0 l p,d0 l q with
  |true,_=>ς .any
  |false,ζ=>ς (.p p k)
  |false,η=>ς (.p l k)
 | .e l a b c=>match d0 l p,d0 l q with
  |true,_=>ς .any
  |false,ζ=>ς (.e p a b c)
  |false,η=>ς (.e l a b c)
 |c=>ς c
def zV(p q:Nat):Laa->Option Laa
 |[]=>ς []
 |(k,.var t cs)::r=>match d0 k p,d0 k q,jG (Az p q) cs,zV p q r with
  |true,_,_,ς r'=>ς r'
  |false,ζ,ς cs',ς r'=>ς ((p,.var t cs')::r')
  |false,η,ς cs',ς r'=>ς ((k,.var t cs')::r')
  |_,_,_,_=>ξ
 |(k,.row t sz els g m)::r=>match d0 k p,d0 k q,zV p q r with
  |true,_,ς r'=>ς r'
  |false,ζ,ς r'=>ς ((p,.row t sz els g m)::r')
  |false,η,ς r'=>ς ((k,.row t sz els g m)::r')
  |_,_,_=>ξ
 |(k,.rown t sz els g)::r=>match d0 k p,d0 k q,zV p q r with
  |true,_,ς r'=>ς r'
  |false,ζ,ς r'=>ς ((p,.rown t sz els g)::r')
  |false,η,ς r'=>ς ((k,.rown t sz els g)::r')
  |_,_,_=>ξ
 |(k,.abs j y)::r=>match d0 k p,d0 k q,zV p q r with
  |true,_,ς r'=>ς r'
  |false,ζ,ς r'=>ς ((p,.abs j y)::r')
  |false,η,ς r'=>ς ((k,.abs j y)::r')
  |_,_,_=>ξ
def Env.ren(E:Env)(p q:Nat):Env:={E with r:=λl=>if l=p then E.r q else if l=q then ξ else E.r l,n:=λl=>if l=p then E.n q else E.n l}
def IB(p q l:Nat):Nat:=if l=q then p else l
def zX(p q:Nat):Ob->Ob->Prop
 | .var t cs,y=>∃cs',jG (Az p q) cs=ς cs'/\y= .var t cs'
 |x,y=>y=x
theorem F5{p q:Nat}(hpq:p≠q){l:Nat}{y:Ob}:∀{ob ob':Laa},zV p q ob=ς ob'->go ob' l=ς y->∃l0 x,l0≠p/\l=IB p q l0/\go ob l0=ς x/\zX p q x y
 |[],ob',h,hy=>by simp[zV] at h;subst h;cases hy
 |(k,x)::r,ob',h,hy=>by
  have key:∀(x':Ob) (r':Laa),zX p q x x'->zV p q r=ς r'->(d0 k p=ζ/\ob'=r')\/(d0 k p=η/\d0 k q=ζ/\ob'=(p,x')::r')\/(d0 k p=η/\d0 k q=η/\ob'=(k,x')::r')->
   ∃l0 x0,l0≠p/\l=IB p q l0/\go ((k,x)::r) l0=ς x0/\zX p q x0 y:=by
   intro x' r' hx hr hc
   have hrec:go r' l=ς y->∃l0 x0,l0≠p/\l=IB p q l0/\go r l0=ς x0/\zX p q x0 y:=λh=>F5 hpq hr h
   rcases hc with⟨h1,rfl⟩|⟨h1,h2,rfl⟩|⟨h1,h2,rfl⟩
   .obtain⟨l0,x0,a1,a2,a3,a4⟩:=hrec hy
    have:=Zo h1
    subst this
    exact⟨l0,x0,a1,a2,by rw[a9 _ _ (Ne.symm a1)];exact a3,a4⟩
   .have:=Zo h2
    subst this
    by_cases e:p=l
    .subst e
     rw[bM] at hy;cases hy
     exact⟨k,x,eR h1,by simp[IB],bM _ _ _,hx⟩
    rw[a9 _ _ e] at hy
    obtain⟨l0,x0,a1,a2,a3,a4⟩:=hrec hy
    have hl0:k≠l0:=λe'=>e (by rw[a2,<-e'];simp[IB])
    exact⟨l0,x0,a1,a2,by rw[a9 _ _ hl0];exact a3,a4⟩
   have hkp:=eR h1
   have hkq:=eR h2
   by_cases e:k=l
   .subst e
    rw[bM] at hy;cases hy
    exact⟨k,x,hkp,by simp[IB,hkq],bM _ _ _,hx⟩
   rw[a9 _ _ e] at hy
   obtain⟨l0,x0,a1,a2,a3,a4⟩:=hrec hy
   have hl0:k≠l0:=λe'=>e (by rw[a2,<-e'];simp[IB,hkq])
   exact⟨l0,x0,a1,a2,by rw[a9 _ _ hl0];exact a3,a4⟩
  cases x with
  |var t cs=>
   simp only[zV] at h
   split at h
   .rename_i h1 h2
    cases h
    cases hm:jG (Az p q) cs with
    |some cs'=>exact key (.var t cs') _ ⟨cs',hm,rfl⟩ h2 (.inl ⟨h1,rfl⟩)
    |none=>
     obtain⟨l0,x0,a1,a2,a3,a4⟩:=F5 hpq h2 hy
     have:=Zo h1
     subst this
     exact⟨l0,x0,a1,a2,by rw[a9 _ _ (Ne.symm a1)];exact a3,a4⟩
   .rename_i h1 h2 h3 h4;cases h;exact key _ _ ⟨_,h3,rfl⟩ h4 (.inr (.inl ⟨h1,h2,rfl⟩))
   .rename_i h1 h2 h3 h4;cases h;exact key _ _ ⟨_,h3,rfl⟩ h4 (.inr (.inr ⟨h1,h2,rfl⟩))
   cases h
  |row t sz els g m=>
   simp only[zV] at h
   split at h
   .rename_i h1 h2;cases h;exact key _ _ (show zX p q (.row t sz els g m) (.row t sz els g m) from rfl) h2 (.inl ⟨h1,rfl⟩)
   .rename_i h1 h2 h3;cases h;exact key _ _ (show zX p q (.row t sz els g m) (.row t sz els g m) from rfl) h3 (.inr (.inl ⟨h1,h2,rfl⟩))
   .rename_i h1 h2 h3;cases h;exact key _ _ (show zX p q (.row t sz els g m) (.row t sz els g m) from rfl) h3 (.inr (.inr ⟨h1,h2,rfl⟩))
   cases h
  |rown t sz els g=>
   simp only[zV] at h
   split at h
   .rename_i h1 h2;cases h;exact key _ _ (show zX p q (.rown t sz els g) (.rown t sz els g) from rfl) h2 (.inl ⟨h1,rfl⟩)
   .rename_i h1 h2 h3;cases h;exact key _ _ (show zX p q (.rown t sz els g) (.rown t sz els g) from rfl) h3 (.inr (.inl ⟨h1,h2,rfl⟩))
   .rename_i h1 h2 h3;cases h;exact key _ _ (show zX p q (.rown t sz els g) (.rown t sz els g) from rfl) h3 (.inr (.inr ⟨h1,h2,rfl⟩))
   cases h
  |abs j z=>
   simp only[zV] at h
   split at h
   .rename_i h1 h2;cases h;exact key _ _ (show zX p q (.abs j z) (.abs j z) from rfl) h2 (.inl ⟨h1,rfl⟩)
   .rename_i h1 h2 h3;cases h;exact key _ _ (show zX p q (.abs j z) (.abs j z) from rfl) h3 (.inr (.inl ⟨h1,h2,rfl⟩))
   .rename_i h1 h2 h3;cases h;exact key _ _ (show zX p q (.abs j z) (.abs j z) from rfl) h3 (.inr (.inr ⟨h1,h2,rfl⟩))
   cases h
theorem Jn{ob:Laa}(p q:Nat)(hp:rsp p=false:=by exact rfl)(hq:rsv q=false:=by exact rfl)(hpq:d0 p q=false:=by exact rfl)(hpn:nlt p nx=true:=by exact rfl)(hs:lL (Az p q) sl=ς sl':=by exact rfl)(hb:zV p q ob=ς ob':=by exact rfl):cB N ⟨sl,ob,nx⟩ ⟨sl',ob',nx⟩:=by
 have hne:=eR hpq
 intro cx E a w hR
 have hrp:(E.ren p q).r p=E.r q:=by simp[Env.ren]
 have hrl:∀l,l≠p->l≠q->(E.ren p q).r l=E.r l:=λl h1 h2=>by simp[Env.ren,h1,h2]
 have hnp:(E.ren p q).n p=E.n q:=by simp[Env.ren]
 have hnl:∀l,l≠p->(E.ren p q).n l=E.n l:=λl h1=>by simp[Env.ren,h1]
 have hr2:∀l b c,(E.ren p q).r l=ς (b,c)->(l=p/\E.r q=ς (b,c))\/(l≠p/\l≠q/\E.r l=ς (b,c)):=by
  intro l b c h
  simp only[Env.ren] at h
  split at h
  .simp_all
  simp_all
 have hf:∀c c' u,Az p q c=ς c'->cvC E w c u->cvC (E.ren p q) w c' u:=by
  intro c c' u h hc
  cases c with
  |w l n=>
   simp only[Az] at h
   split at h
   .cases h;trivial
   .rename_i h1 h2;cases h;have:=Zo h2;subst this;obtain⟨b,k,h3,h4⟩:=hc;exact⟨b,k,hrp.trans h3,h4⟩
   rename_i h1 h2;cases h;obtain⟨b,k,h3,h4⟩:=hc;exact⟨b,k,(hrl _ (eR h1) (eR h2)).trans h3,h4⟩
  |wn l n=>
   simp only[Az] at h
   split at h
   .cases h;trivial
   .rename_i h1 h2;cases h;have:=Zo h2;subst this
    rcases hc with⟨h3,h4⟩|⟨h3,b,k,h5,h6⟩
    .exact .inl ⟨by simp_all,h4⟩
    exact .inr ⟨by simp_all,b,k,hrp.trans h5,h6⟩
   rename_i h1 h2;cases h
   rcases hc with⟨h3,h4⟩|⟨h3,b,k,h5,h6⟩
   .exact .inl ⟨by rw[hnl _ (eR h1)];exact h3,h4⟩
   exact .inr ⟨by rw[hnl _ (eR h1)];exact h3,b,k,(hrl _ (eR h1) (eR h2)).trans h5,h6⟩
  |s l a1 a2 a3=>
   simp only[Az] at h
   split at h
   .cases h;trivial
   .rename_i h1 h2;cases h;have:=Zo h2;subst this;obtain⟨A,c,b,k,h3,h4⟩:=hc;exact⟨A,c,b,k,hrp.trans h3,h4⟩
   rename_i h1 h2;cases h;obtain⟨A,c,b,k,h3,h4⟩:=hc;exact⟨A,c,b,k,(hrl _ (eR h1) (eR h2)).trans h3,h4⟩
  |p l n=>
   simp only[Az] at h
   split at h
   .cases h;trivial
   .rename_i h1 h2;cases h;have:=Zo h2;subst this;obtain⟨b,k,h3,h4⟩:=hc;exact⟨b,k,hrp.trans h3,h4⟩
   rename_i h1 h2;cases h;obtain⟨b,k,h3,h4⟩:=hc;exact⟨b,k,(hrl _ (eR h1) (eR h2)).trans h3,h4⟩
  |e l a1 a2 a3=>
   simp only[Az] at h
   split at h
   .cases h;trivial
   .rename_i h1 h2;cases h;have:=Zo h2;subst this;obtain⟨b,k,h3,h4⟩:=hc;exact⟨b,k,hrp.trans h3,h4⟩
   rename_i h1 h2;cases h;obtain⟨b,k,h3,h4⟩:=hc;exact⟨b,k,(hrl _ (eR h1) (eR h2)).trans h3,h4⟩
  |_=>simp only[Az] at h;cases h;exact hc
 have ok:=hR.ok
 have hback:∀l b c,(E.ren p q).r l=ς (b,c)->∃l',E.r l'=ς (b,c):=λl b c h=>(hr2 l b c h).elim (λh=>⟨q,h.2⟩) (λh=>⟨l,h.2.2⟩)
 refine⟨E.ren p q,⟨ok.fb,ok.gf,ok.gn,λl b c h=>?_,λl l' b c c' h h'=>?_,ok.os,ok.tape,ok.output,ok.size,ok.block,λl x hv h=>?_,ok.ff,ok.gc,⟨λl b h=>?_,ok.sf.tt,λb h=>?_,ok.sf.zs,ok.sf.ze⟩⟩,λl x h=>?_,λl y hl=>?_,λk=>tU hf hs (hR.sl k),hR.dfr,hR.size,hR.td⟩
 .rcases hr2 l b c h with⟨_,h⟩|⟨_,_,h⟩
  .obtain⟨k1,k2⟩:=ok.rb _ _ _ h
   simp_all
  exact ok.rb l b c h
 .rcases hr2 l b c h with⟨rfl,k3⟩|⟨k1,k2,k3⟩<;>rcases hr2 l' b c' h' with⟨e,m3⟩|⟨m1,m2,m3⟩
  .exact e.symm
  .exact absurd (ok.inj _ _ _ _ _ m3 k3) m2
  .exact absurd (ok.inj _ _ _ _ _ k3 m3) k2
  exact ok.inj _ _ _ _ _ k3 m3
 .obtain⟨b,c⟩:=x
  rcases hr2 l b c h with⟨rfl,_⟩|⟨_,_,h⟩
  .simp_all
  exact ok.pin l _ hv h
 .obtain⟨k1,k2,k3,k4⟩:=ok.sf.tb l b h
  exact⟨k1,k2,λl' c hl=>(hback l' b c hl).elim λl'' h''=>k3 l'' c h'',k4⟩
 .obtain⟨k1,k2,k3,k4⟩:=ok.sf.zc b h
  exact⟨k1,k2,λl' c hl=>(hback l' b c hl).elim λl'' h''=>k3 l'' c h'',k4⟩
 .obtain⟨b,c⟩:=x
  rcases hr2 l b c h with⟨rfl,_⟩|⟨_,_,h⟩
  .exact bO hpn
  exact hR.dom l _ h
 obtain⟨l0,x,a1,a2,a3,a4⟩:=F5 hne hb hl
 have hx:=hR.obs l0 x a3
 have hlab:(E.ren p q).r l=E.r l0/\(E.ren p q).n l=E.n l0:=by
  subst a2
  unfold IB
  split
  .simp_all
  simp_all
 cases x with
 |var t cs=>
  obtain⟨cs',h1,rfl⟩:=a4
  obtain⟨b,c,arr,k1,k2,k3,k4⟩:=hx
  exact⟨b,c,arr,hlab.1.trans k1,k2,oc hf h1 k3,k4⟩
 |row t sz els g m=>
  have a4:y= .row t sz els g m:=a4
  subst a4
  obtain⟨b,c,arr,k1,k2⟩:=hx
  exact⟨b,c,arr,hlab.1.trans k1,k2⟩
 |rown t sz els g=>
  have a4:y= .rown t sz els g:=a4
  subst a4
  rcases hx with⟨h1,h2⟩|⟨h1,b,c,arr,k1,k2⟩
  .exact .inl ⟨by simp_all,h2⟩
  exact .inr ⟨by simp_all,b,c,arr,hlab.1.trans k1,k2⟩
 |abs j z=>
  have a4:y= .abs j z:=a4
  subst a4
  rcases hx with⟨h1,h2⟩|⟨h1,b,c,k1,k2⟩
  .exact .inl ⟨by simp_all,h2⟩
  exact .inr ⟨by simp_all,b,c,hlab.1.trans k1,k2⟩
structure VIn(E:Env)(w:World):Prop where
 fb:∀b,E.F b->b<w.heap.size
 gf:∀b,E.G b->E.F b
 rb:∀o b c,E.r o=ς (b,c)->b<w.heap.size/\rsv o=ζ/\¬E.F b
 inj:∀o o' b c c',E.r o=ς (b,c)->E.r o'=ς (b,c')->o=o'
 T:∀l b,E.T l b->b<w.heap.size/\¬E.F b/\(∀o c,E.r o≠ς (b,c))/\eJ w b/\l<210
 tt:∀l l' b,E.T l b->E.T l' b->l=l'
 ts:∀k∈nT,∀l,¬E.T l k
 Z:∀b,¬E.Z b
structure VOut(E:Env)(w:World)(E':Env)(w':World):Prop where
 past:zk w w' (λk=>(∃o c,E.r o=ς (k,c))\/∃l,E.T l k)
 fb:∀b,E'.F b->b<w'.heap.size
 f0:∀b,E'.F b->E.F b\/((w.heap.size<=b\/∃l,E.T l b)/\eJ w' b)
 F:∀b,E.F b->E'.F b
 G:∀b,E.G b->E'.G b
 gf:∀b,E'.G b->E'.F b
 g0:∀b,E'.G b->w.heap.size<=b\/E.G b\/∃l,E.T l b
 rb:∀o b c,E'.r o=ς (b,c)->b<w'.heap.size/\((w.heap.size<=b\/∃l,E.T l b)\/((∃o' c',E.r o'=ς (b,c'))/\rsv o=ζ))
 inj:∀o o' b c c',E'.r o=ς (b,c)->E'.r o'=ς (b,c')->o=o'
 pin:∀o x,rsp o=ζ->E'.r o=ς x->E.r o=ς x
 T:∀l b,E'.T l b->(b<w'.heap.size/\(w.heap.size<=b\/∃l',E.T l' b))/\¬E'.F b/\(∀o c,E'.r o≠ς (b,c))/\eJ w' b
 tt:∀l l' b,E'.T l b->E'.T l' b->l=l'
structure FnV(P:Program)(f:FuncId)(xs:Laa)(args:List T)(ys:Laa)(out:T)(nw:Laa):Prop where
 enters:∀(vs:Array Value) (w:World),(callFunc f vs).run P w= .ok (.enter f vs) w
 calls:∀(E:Env) (w:World) (vals:Array Value),VIn E w->TabsIn w->(∀k∈nT,∀o c,E.r o≠ς (k,c))->(∀l x,go xs l=ς x->cg E w l x)->TV E w args vals.toList->
  Calls P f vals w λe w'=>∃v E',e= .returned v/\VOut E w E' w'/\cvT E' w' out v/\(∀l y,go ys l=ς y->cg E' w' l y)/\(∀l y,go nw l=ς y->cg E' w' l y)
def Ko:List V->T
 |[v]=>.v v
 |vs=>.tup vs
def LoA(ob:Laa):Laa->Prop
 |[]=>True
 |(l,x)::r=>go ob l=ς x/\LoA ob r
theorem EW{ob:Laa}:∀{l:Laa} {k:Nat} {x:Ob},LoA ob l->go l k=ς x->go ob k=ς x
 |(j,y)::r,k,x,h,hg=>by
  by_cases e:j=k
  .subst e;rw[bM] at hg;cases hg;exact h.1
  rw[a9 _ _ e] at hg;exact EW h.2 hg
def mU(N:Nat)(P:Program)(rs:List ResultVar)(ys:Laa)(out:T)(nw:Laa):Exit->St->Prop
 | .ret,s| .normal,s=>∃s' vs,cB N s s'/\it P s' rs vs/\Ko vs=out/\LoA s'.ob ys/\LoA s'.ob nw
 |_,_=>False
instance {N:Nat} {P:Program} {rs:List ResultVar} {ys:Laa} {out:T} {nw:Laa}:Clo N (mU N P rs ys out nw):=⟨λe s m hw h=>by
 cases e<;>simp only[mU] at h ⊢<;>first|exact h|(obtain⟨s',vs,h1,h2⟩:=h;exact⟨s',vs,aK hw h1,h2⟩)⟩
theorem G6{e:Exit}(hw:cB N s m)(h:tD N P rs res e m):tD N P rs res e s:=Clo.h (N:=N) _ _ _ hw h
theorem Xl{e:Exit}(hw:cB N s m)(h:pP N P rs res y e m):pP N P rs res y e s:=Clo.h (N:=N) _ _ _ hw h
theorem ci{nw:Laa}{e:Exit}(hw:cB N s m)(h:mU N P rs ys out nw e m):mU N P rs ys out nw e s:=Clo.h (N:=N) _ _ _ hw h
theorem dK{nw:Laa}{vs:List V}(h:it P s rs vs:=by repeat' (first|exact .nil|apply it.cons|exact .tmp rfl|exact .cell rfl rfl rfl|exact .cell1 rfl rfl))(ho:Ko vs=out':=by exact rfl)(e:out'=out:=by first|rfl|simp)(hy:LoA s.ob ys:=by repeat (first|exact θ|refine⟨rfl,?_⟩))(hn:LoA s.ob nw:=by repeat (first|exact θ|refine⟨rfl,?_⟩)):mU N P rs ys out nw .ret s:=by
 subst e;exact⟨s,vs,jv s,h,ho,hy,hn⟩
theorem Hs{nw:Laa}{vs:List V}(h:it P s rs vs:=by repeat' (first|exact .nil|apply it.cons|exact .tmp rfl|exact .cell rfl rfl rfl|exact .cell1 rfl rfl))(ho:Ko vs=out':=by exact rfl)(e:out'=out:=by first|rfl|simp)(hy:LoA s.ob ys:=by repeat (first|exact θ|refine⟨rfl,?_⟩))(hn:LoA s.ob nw:=by repeat (first|exact θ|refine⟨rfl,?_⟩)):mU N P rs ys out nw .normal s:=by
 subst e;exact⟨s,vs,jv s,h,ho,hy,hn⟩
theorem Yt{o:Nat}(h:rsv o=ζ):o<210:=by
 simp only[rsv,nlt,hV,Nat.ble_eq] at h;omega
theorem J0{fn:Func}{c:Code}{xs:Laa}{args:List T}{nw:Laa}{sl0:Lab}(hf:P.funcs[f]?=ς fn)(hb:fn.body=ς c:=by exact rfl)(hnm:(fn.name== "runtime.NumGoroutine")=false:=by kernel_rfl)(hN:fn.ntmps=N)(hrs:fn.results.toList=rs:=by exact rfl)(ha:Zw args.length N=true:=by exact rfl)(hs:tG 0 args=sl0:=by exact rfl)(h:AWC P N c ⟨sl0,xs,210⟩ (mU N P rs ys out nw)):FnV P f xs args ys out nw:=by
 subst hs
 refine⟨λvs w=>by simp[callFunc,hf,hb];simp_all,λE w vals hI hT hTb hx hA=>?_⟩
 subst hrs
 refine calls_of_wp hf hb ?_
 obtain⟨h1,h2⟩:=AG 0 hA
 have hle:args.length<=N:=ZK ha
 have hsz:vals.size=args.length:=by simpa using h1
 have hR:Rel N ⟨w,λk=>(∃o c,E.r o=ς (k,c))\/∃l,E.T l k,E.r,λk=>E.F k\/∃l,E.T l k,λ_=>False,⟨hT,λk hk h=>h.elim (λ⟨o,c,h⟩=>hTb k hk o c h) (λ⟨l,h⟩=>hI.ts k hk l h)⟩,λk=>E.G k\/∃l,E.T l k⟩ E ⟨tG 0 args,xs,210⟩ {tmps:=vals++Zv (fn.ntmps-vals.size) undef,defers:=[]} w:=by
  refine⟨⟨hI.fb,hI.gf,λ_ h=>.inr (.inl h),λo k k' h=>?_,hI.inj,rfl,rfl,rfl,Zu _,λ_ _ _=>rfl,λ_ _ _ h=>h,λ_ h=>.inl (.inl h),λb h h'=>absurd (hI.fb b h) (aak.2 (h'.resolve_right λk=>k.1.elim (λ⟨o,c,k⟩=>(hI.rb o b c k).2.2 h) (λ⟨l,k⟩=>(hI.T l b k).2.1 h))),⟨λl b h=>?_,hI.tt,λ_ h=>h.elim,λ_ h=>h.elim,λb h=>absurd h (hI.Z b)⟩⟩,λo p h=>?_,λo ob h=>hx o ob h,λk=>?_,rfl,by simp;omega,λl b h=>(hI.T l b h).2.2.2.2⟩
  .obtain⟨k1,k2,_⟩:=hI.rb o k k' h;exact⟨k1,.inr ⟨.inl ⟨_,_,h⟩,k2⟩⟩
  .obtain⟨k1,k2,k3,k4,_⟩:=hI.T l b h
   exact⟨⟨k1,.inr ⟨.inr ⟨_,h⟩,.inr ⟨_,h⟩,.inr ⟨_,h⟩,id⟩⟩,k2,k3,k4⟩
  .exact Yt (hI.rb o p.1 p.2 h).2.1
  by_cases hk:k<args.length
  .obtain⟨u,h3,h4⟩:=(h2 k).1 ⟨ZA _,by omega⟩
   have:(vals++Zv (fn.ntmps-vals.size) undef).getD k undef=u:=by
    have h5:vals[k]?=ς u:=by simpa using h3
    have h6:(vals++Zv (fn.ntmps-vals.size) undef)[k]?=ς u:=by rw[aao oaa];exact h5
    simp[h6]
   simp_all
  have:=(h2 k).2 oaa
  show cvT _ w (gt (tG 0 args) k) _
  rw[this];trivial
 refine wp_mono (h _ _ _ w hR) ?_
 rintro e a' w' ⟨E',s',hR',hq⟩
 have fin:(∃s'' vs,cB N s' s''/\it P s'' fn.results.toList vs/\Ko vs=out/\LoA s''.ob ys/\LoA s''.ob nw)->
  a'.defers=[]/\∃v,(results fn a'.tmps).run P w'= .ok v w'/\∃v' E',Ending.returned v= .returned v'/\VOut E w E' w'/\cvT E' w' out v'/\(∀l y,go ys l=ς y->cg E' w' l y)/\(∀l y,go nw l=ς y->cg E' w' l y):=by
  rintro⟨s'',vs,hw,hres,ho,hys,hnw⟩
  obtain⟨E'',hR''⟩:=hw _ _ _ _ hR'
  have ok:=hR''.ok
  obtain⟨us,k1,k2⟩:=sT hR'' hres
  have hm:(fn.results.mapM (jC a'.tmps)).run P w'= .ok us.toArray w':=by
   rw[<-ZY (xs:=fn.results),aau]
   simp only[Sem.run_map,k1]
   rfl
  have hrr:results fn a'.tmps=(fn.results.mapM (jC a'.tmps))>>= λvs=>pure (if h:vs.size=1 then vs[0] else .tuple vs):=rfl
  have hv:∃v,(results fn a'.tmps).run P w'= .ok v w'/\cvT E'' w' out v:=by
   subst ho
   match vs,us,k2 with
   |[],[],_=>exact⟨.tuple #[],by simp_all,#[],rfl,θ⟩
   |[v],[u],k2=>exact⟨u,by simp_all,k2.1⟩
   |v1::v2::vs,u1::u2::us,k2=>exact⟨.tuple (u1::u2::us).toArray,by simp_all,_,rfl,k2⟩
  obtain⟨v,q1,q2⟩:=hv
  have hWF:∀b,((∃o c,E.r o=ς (b,c))\/∃l,E.T l b)->¬E.F b:=λb h=>h.elim (λ⟨o,c,k⟩=>(hI.rb o b c k).2.2) (λ⟨l,k⟩=>(hI.T l b k).2.1)
  have hk:gb E'' w' {E'' with F:=λb=>E''.F b\/E.F b,G:=λb=>E''.G b\/E.G b} w':=⟨λ_ _ h=>h,λg b h=>by cases g<;>exact Or.inl h,λ_ _ _=>rfl,λ_ _ h=>⟨h,rfl⟩,λ_ h=>⟨h,.refl _ _⟩,rfl⟩
  have hob:∀l y,go s''.ob l=ς y->cg {E'' with F:=λb=>E''.F b\/E.F b,G:=λb=>E''.G b\/E.G b} w' l y:=λl y h=>
   fy hk (λ_ _ _=>rfl) (λb c hr hn hF=>hF.elim hn (λhF=>by
    have h1:=hI.fb b hF
    rcases ok.rw hr with k|k
    .exact aak.2 k h1
    exact hWF b k hF)) (hR''.obs l y h)
  refine⟨hR''.dfr,v,q1,v,{E'' with F:=λb=>E''.F b\/E.F b,G:=λb=>E''.G b\/E.G b},rfl,⟨⟨ok.os,ok.tape,ok.output,ok.size,ok.block⟩,λb h=>h.elim (ok.fb b) (λh=>by have:=hI.fb b h;have:=ok.size;grind),λb h=>h.elim (λh=>(ok.ff b h).elim (λk=>k.elim .inl (λk=>.inr ⟨.inr k,ok.gc b h (.inr ⟨.inr k,.inr k,.inr k,id⟩)⟩)) (λk=>.inr ⟨.inl k,ok.gc b h (.inl k)⟩)) .inl,λb h=>.inr h,λb h=>.inr h,λb h=>h.imp (ok.gf b) (hI.gf b),λb h=>h.elim (ok.gn b) (λh=>.inr (.inl h)),λo b c h=>?_,ok.inj,λo x hv h=>?_,λl b h=>?_,ok.sf.tt⟩,?_,?_,?_⟩
  .obtain⟨m1,m2⟩:=ok.rb o b c h
   refine⟨m1,?_⟩
   rcases m2 with(m|⟨m,k,_⟩)|⟨m,k⟩
   .exact .inl (.inl m)
   .exact .inl (.inr (m.elim (λ⟨o,c,h⟩=>k.elim (λk=>absurd (hI.gf b k) (hI.rb o b c h).2.2) id) id))
   exact m.elim (λm=>.inr ⟨m,k⟩) (λm=>.inl (.inr m))
  .exact ok.pin o x hv h
  .obtain⟨⟨h1,h2⟩,h3,h4,h5⟩:=ok.sf.tb l b h
   refine⟨⟨h1,h2.imp id λk=>?_⟩,λhf=>hf.elim h3 λhf=>h2.nw.elim (λk=>aak.2 k (hI.fb b hf)) (λk=>hWF b k hf),h4,h5⟩
   exact k.2.1.elim (λq=>absurd (hI.gf b q) (hWF b k.1)) id
  .exact iw hk q2
  .exact λl y h=>hob l y (EW hys h)
  exact λl y h=>hob l y (EW hnw h)
 cases e with
 |normal=>exact fin hq
 |ret=>exact fin hq
 |_=>exact hq.elim
def bQ:Lac->Nat->Option Nat
 |[],_=>ξ
 |(a,b)::r,n=>match d0 a n with
  |true=>ς b
  |false=>bQ r n
def inv:Lac->Lac
 |[]=>[]
 |(a,b)::r=>(b,a)::inv r
theorem cp{a b:Nat}:∀{m:Lac},bQ m a=ς b->(a,b)∈m
 |(x,y)::r,h=>by
  simp only[bQ] at h
  split at h
  .simp_all
  exact .tail _ (cp h)
theorem dX{a b:Nat}:∀{m:Lac},(m.map (·.1)).Nodup->(a,b)∈m->bQ m a=ς b
 |(x,y)::r,hn,h=>by
  simp only[bQ]
  simp only[aac,Z2] at hn
  rcases Zp.1 h with e|h
  .cases e;simp
  have hne:x≠a:=λe=>hn.1 (by simp_all)
  rw[gJ hne];exact dX hn.2 h
theorem gQ{a b:Nat}:∀{m:Lac},(b,a)∈inv m↔(a,b)∈m
 |[]=>by simp[inv]
 |(x,y)::r=>by
  simp only[inv,Zp,Prod.mk.injEq,gQ (m:=r)]
  grind
theorem me:∀(m:Lac),(inv m).map (·.1)=m.map (·.2)
 |[]=>rfl
 |(x,y)::r=>by simp[inv,me r]
def rlC(m:Lac):C->Option C
 | .d (.b g) x=>ς (.d g x)
 | .nil=>ς .nil
 | .any=>ς .any
 | .fn f=>ς (.fn f)
 | .w l n=>match bQ m l with
  |some k=>ς (.w k n)
  |none=>ξ
 | .wn l n=>match bQ m l with
  |some k=>ς (.wn k n)
  |none=>ξ
 | .p l j=>match bQ m l with
  |some k=>ς (.p k j)
  |none=>ξ
 | .s l x y z=>match bQ m l with
  |some k=>ς (.s k x y z)
  |none=>ξ
 |_=>ξ
def rlB(ob:Laa)(m:Lac):C->Option C
 | .d (.b g) x=>ς (.d g x)
 | .nil=>ς .nil
 | .any=>ς .any
 | .fn f=>ς (.fn f)
 | .w l n=>match bQ m l,go ob l with
  |some k,ς (.row ..)=>ς (.w k n)
  |_,_=>ξ
 | .wn l n=>match bQ m l,go ob l with
  |some k,ς (.rown ..)=>ς (.wn k n)
  |_,_=>ξ
 | .p l j=>match bQ m l,go ob l with
  |some k,ς (.var ..)=>ς (.p k j)
  |_,_=>ξ
 |_=>ξ
def agC(up:Bool)(ob:Laa)(m:Lac):C->Option C
 | .d (.b g) x=>ς (.d (up&&g) x)
 | .nil=>ς (.d up (.l []))
 |c=>rlB ob m c
def og(f:C->Option C):List T->Option (List T)
 |[]=>ς []
 |c::cs=>match sJ f c,og f cs with
  |some x,ς xs=>ς (x::xs)
  |_,_=>ξ
def yH(f:C->Option C):Ob->Option Ob
 | .var t cs=>match jG f cs with
  |some cs'=>ς (.var t cs')
  |none=>ξ
 | .row t sz els (.b g) ζ=>ς (.row t sz els g ζ)
 | .row .. =>ξ
 | .rown t sz els (.b g)=>ς (.rown t sz els g)
 | .rown .. =>ξ
 | .abs _ _=>ξ
def wL(mi:Lac)(ob:Laa):Lac->Option Laa
 |[]=>ς []
 |(k,o)::r=>match go ob o with
  |some x=>match yH (rlB ob mi) x,wL mi ob r with
   |some y,ς ys=>ς ((k,y)::ys)
   |_,_=>ξ
  |none=>ξ
def qx(m:Lac):Laa->Option Laa
 |[]=>ς []
 |(k,x)::r=>match bQ m k,yH (rlC m) x,qx m r with
  |some o,ς y,ς ys=>ς ((o,y)::ys)
  |_,_,_=>ξ
def kvC(mi:Lac):C->Option C
 | .w l n=>match bQ mi l with
  |some _=>ς .any
  |none=>ς (.w l n)
 | .wn l n=>match bQ mi l with
  |some _=>ς .any
  |none=>ς (.wn l n)
 | .s l a b c=>match bQ mi l with
  |some _=>ς .any
  |none=>ς (.s l a b c)
 | .e l a b c=>match bQ mi l with
  |some _=>ς .any
  |none=>ς (.e l a b c)
 | .p l j=>match bQ mi l with
  |some k=>match rsp k with
   |true=>ς (.p l j)
   |false=>ς .any
  |none=>ς (.p l j)
 |c=>ς c
def QZ(ys:Laa)(k:Nat):Bool:=match go ys k with
 |some (.var ..)=>ζ
 |_=>η
def G7(nx:Nat):Lac->Nat->Bool
 |[],n=>d0 n nx
 |(k,o)::r,n=>((d0 o nx&&!rsv nx)&&!rsv k)&&G7 (nx+1) r n
def mOK(m nl:Lac)(nx n:Nat)(ys:Laa):Bool:=
 ((gm ((m++nl).map (·.1))&&gm ((m++nl).map (·.2)))&&(m.all (λp=>rsv p.1&&nlt p.2 nx)&&G7 nx nl n))&&
  ((m.all (λp=>rsp p.1||rsv p.2)||m.all (λp=>rsp p.1||!rsv p.2))&&m.all (λp=>(!rsp p.2||rsp p.1)&&((!rsp p.1||QZ ys p.1)&&(go ys p.1).isSome)))
theorem xT:∀{nl:Lac} {nx n:Nat},G7 nx nl n=ζ->nx<=n/\∀k o,(k,o)∈nl->nx<=o/\o<n/\rsv o=η/\rsv k=η
 |[],nx,n,h=>by have:=Zo h;simp_all
 |(k,o)::r,nx,n,h=>by
  simp only[G7,hV,ZD] at h
  obtain⟨⟨⟨h1,h2⟩,h3⟩,h4⟩:=h
  have:=Zo h1
  subst this
  obtain⟨k1,k2⟩:=xT h4
  grind
theorem yo{f:C->Option C}{E E':Env}{w w':World}(hf:∀c c' u,f c=ς c'->cvC E w c u->cvC E' w' c' u){a:Act}:∀{ts ts':List T} {args:List Operand},og f ts=ς ts'->ts.length=args.length->(∀x t,(x,t)∈args.zip ts->cvT E w t (a.eval x))->TV E' w' ts' (args.map a.eval)
 |[],ts',args,h,hl,hn=>by
  simp[og] at h;subst h
  cases args with
  |nil=>trivial
  |cons _ _=>simp at hl
 |t::ts,ts',args,h,hl,hn=>by
  simp only[og] at h
  split at h
  .rename_i h1 h2
   simp at h;subst h
   cases args with
   |nil=>simp at hl
   |cons y args=>exact⟨vS hf h1 (hn y t (by simp)),yo hf h2 (by simp_all) (λx t hm=>hn x t (by simp[hm]))⟩
  cases h
theorem Ip{mi:Lac}{ob:Laa}:∀{m:Lac} {xs:Laa} {l:Nat} {x:Ob},wL mi ob m=ς xs->go xs l=ς x->∃o x0,bQ m l=ς o/\go ob o=ς x0/\yH (rlB ob mi) x0=ς x
 |[],xs,l,x,h,hg=>by simp[wL] at h;subst h;cases hg
 |(k,o)::r,xs,l,x,h,hg=>by
  simp only[wL] at h
  split at h
  .rename_i x0 h0
   split at h
   .rename_i y ys h1 h2
    simp at h;subst h
    by_cases e:k=l
    .subst e;rw[bM] at hg;cases hg;exact⟨o,x0,by simp[bQ],h0,h1⟩
    rw[a9 _ _ e] at hg
    obtain⟨o',x',a1,a2,a3⟩:=Ip h2 hg
    exact⟨o',x',by simp only[bQ,gJ e];exact a1,a2,a3⟩
   cases h
  cases h
theorem Eb{mi:Lac}{ob:Laa}:∀{m:Lac} {xs:Laa} {k o:Nat},wL mi ob m=ς xs->(k,o)∈m->∃x0 x,go ob o=ς x0/\yH (rlB ob mi) x0=ς x
 |(k',o')::r,xs,k,o,h,hm=>by
  simp only[wL] at h
  split at h
  .rename_i x0 h0
   split at h
   .rename_i y ys h1 h2
    rcases Zp.1 hm with e|hm
    .simp_all
    exact Eb h2 hm
   cases h
  cases h
theorem Cn{m:Lac}(hinj:∀a a' b,bQ m a=ς b->bQ m a'=ς b->a=a'):∀{ys ys':Laa} {o:Nat} {y':Ob},qx m ys=ς ys'->go ys' o=ς y'->∃k y,bQ m k=ς o/\go ys k=ς y/\yH (rlC m) y=ς y'
 |[],ys',o,y',h,hg=>by simp[qx] at h;subst h;cases hg
 |(k,x)::r,ys',o,y',h,hg=>by
  simp only[qx] at h
  split at h
  .rename_i o1 y1 ys1 h1 h2 h3
   simp at h;subst h
   by_cases e:o1=o
   .subst e;rw[bM] at hg;cases hg;exact⟨k,x,h1,bM _ _ _,h2⟩
   rw[a9 _ _ e] at hg
   obtain⟨k',y,a1,a2,a3⟩:=Cn hinj h3 hg
   have hne:k≠k':=λe'=>by simp_all
   exact⟨k',y,a1,by rw[a9 _ _ hne];exact a2,a3⟩
  cases h
theorem Fo{a b:Laa}{o:Nat}(h:go (a++b) o=ς x):go a o=ς x\/(go a o=ξ/\go b o=ς x):=by
 induction a with
 |nil=>exact .inr ⟨rfl,h⟩
 |cons p r ih=>
  obtain⟨k,v⟩:=p
  by_cases e:k=o
  .subst e;rw[ZN,bM] at h;rw[bM];exact .inl h
  rw[ZN,a9 _ _ e] at h;rw[a9 _ _ e];exact ih h
theorem Co{m:Lac}:∀{ys ys':Laa} {k:Nat} {y:Ob},qx m ys=ς ys'->go ys k=ς y->∃o,bQ m k=ς o/\go ys' o≠ξ
 |(k',x)::r,ys',k,y,h,hg=>by
  simp only[qx] at h
  split at h
  .rename_i o1 y1 ys1 h1 h2 h3
   simp at h;subst h
   by_cases e:k'=k
   .subst e;exact⟨o1,h1,by rw[bM];simp⟩
   rw[a9 _ _ e] at hg
   obtain⟨o,a1,a2⟩:=Co h3 hg
   refine⟨o,a1,?_⟩
   by_cases e2:o1=o
   .subst e2;rw[bM];simp
   rw[a9 _ _ e2];exact a2
  cases h
theorem IH{f:C->Option C}{t:Nat}{g:Gr}{mm:Bool}(h:yH f (.row t sz els g mm)=ς y):∃g':Bool,g= .b g'/\mm=ζ/\y= .row t sz els g' true:=by
 cases g<;>cases mm<;>simp[yH] at h
 exact⟨_,rfl,rfl,h.symm⟩
theorem OM{f:C->Option C}{t:Nat}{g:Gr}(h:yH f (.rown t sz els g)=ς y):∃g':Bool,g= .b g'/\y= .rown t sz els g':=by
 cases g<;>simp[yH] at h
 exact⟨_,rfl,h.symm⟩
theorem yI{f:C->Option C}{o:Nat}(h:yH f x=ς y)(hf:∀c c' u,f c=ς c'->cvC E w c u->cvC E' w c' u)(hr:∀b c,¬(E.n l/\∃t sz els g,x= .rown t sz els g)->E.r l=ς (b,c)->E'.r o=ς (b,c))(hn:E'.n o↔E.n l)(hH:∀(g:Bool) b,E.H g b->E'.H g b)(hF:∀b c,¬(E.n l/\∃t sz els g,x= .rown t sz els g)->E.r l=ς (b,c)->¬E.F b->¬E'.F b)(hx:cg E w l x):cg E' w o y:=by
 cases x with
 |var t cs=>
  simp only[yH] at h
  split at h
  .rename_i h1;cases h
   obtain⟨b,c,arr,k1,k2,k3,k4⟩:=hx
   have hno:¬(E.n l/\∃t' sz els g,Ob.var t cs= .rown t' sz els g):=λ⟨_,_,_,_,_,h⟩=>by cases h
   exact⟨b,c,arr,hr b c hno k1,k2,oc hf h1 k3,hF b c hno k1 k4⟩
  cases h
 |row t sz els g mm=>
  obtain⟨g,rfl,rfl,rfl⟩:=IH h
  obtain⟨b,c,arr,k1,k2,k3,k4,k5,k6,k7,k8,_⟩:=hx
  have hno:¬(E.n l/\∃t' sz' els' g',Ob.row t sz els g ζ= .rown t' sz' els' g'):=λ⟨_,_,_,_,_,h⟩=>by cases h
  exact⟨b,c,arr,hr b c hno k1,k2,k3,k4,k5,k6,bS (λ_ _=>rfl) (hH g) rfl _ _ k7,λ_=>hF b c hno k1 (k8 rfl),(λh=>by cases h),θ⟩
 |rown t sz els g=>
  obtain⟨g,rfl,rfl⟩:=OM h
  rcases hx with⟨h1,h2⟩|⟨h1,b,c,arr,k1,k2,k3,k4,k5,k6,k7,k8⟩
  .exact .inl ⟨hn.2 h1,h2⟩
  exact .inr ⟨λk=>h1 (hn.1 k),b,c,arr,hr b c (λk=>h1 k.1) k1,k2,k3,k4,k5,k6,bS (λ_ _=>rfl) (hH g) rfl _ _ k7,hF b c (λk=>h1 k.1) k1 k8.1,θ⟩
 |abs j z=>cases h
def ltF(n:Nat)(f:C->Option C)(c:C):Option C:=bif c.lt n then f c else ς .any
theorem H3{n:Nat}{f:C->Option C}:∀{cs:List C},cs.all (C.lt n)=ζ->jG (ltF n f) cs=jG f cs
 |[],_=>rfl
 |c::cs,h=>by
  simp only[ZR,hV] at h
  simp only[jG,H3 h.2,ltF,h.1,cond_true]
theorem Ml{f:C->Option C}{v:V}(h:v.lt n=ζ):Ay (ltF n f) v=Ay f v:=by
 cases v with
 |c c=>have h:c.lt n=true:=h;simp only[Ay,ltF,h,cond_true]
 |agg cs=>simp only[Ay,H3 (n:=n) (cs:=cs) h]
theorem H4{n:Nat}{f:C->Option C}:∀{cs:List V},cs.all (V.lt n)=ζ->uV (ltF n f) cs=uV f cs
 |[],_=>rfl
 |c::cs,h=>by
  simp only[ZR,hV] at h
  simp only[uV,H4 h.2,Ml h.1]
theorem Vd{f:C->Option C}{t:T}(h:t.lt n=ζ):sJ (ltF n f) t=sJ f t:=by
 cases t with
 |v v=>simp only[sJ,Ml (n:=n) (v:=v) h]
 |tup vs=>simp only[sJ,H4 (n:=n) (cs:=vs) h]
 |any=>rfl
theorem FF{n:Nat}{f:C->Option C}:∀{sl:Lab},uF n sl=ζ->lL (ltF n f) sl=lL f sl
 |[],_=>rfl
 |(k,t)::r,h=>by
  simp only[uF,hV] at h
  simp only[lL,Vd h.1,FF h.2]
open Classical in
theorem FY{up:Bool}{d:Tmp}{ob:Laa}{xs ys' nw nw':Laa}{m nl:Lac}(hF:FnV P f xs ts' ys out nw)(ht:ni sl args=ς ts)(ha:og (agC up ob (inv m)) ts=ς ts')(hx:wL (inv m) ob m=ς xs)(hm:mOK m nl nx n ys=ζ)(hs:lL (kvC (inv m)) sl=ς sl')(hb:kr (kvC (inv m)) (λ_ x=>ς x) ob=ς ob')(hy:qx (m++nl) ys=ς ys')(hw:qx (m++nl) nw=ς nw')(ho:sJ (rlC (m++nl)) out=ς out')(hsl:uF nx sl=ζ)(hol:oR nx ob=ζ)(hN:nlt d N=ζ):
 AWO P N ⟨ς d,.call ⟨.value (.func f),args.toArray,tys⟩,ty,ps,af,gd⟩ ⟨sl,ob,nx⟩ ⟨(d,out')::sl',nw'++(ys'++ob'),n⟩:=by
 intro cx E a w hR
 have ok:=hR.ok
 obtain⟨t1,t2⟩:=nN ht
 simp only[mOK,hV,Zq,ZC,ZD] at hm
 obtain⟨⟨⟨hk1,hk2⟩,hm1,hc⟩,hu,hm2⟩:=hm
 have nd1:=eP hk1
 have nd2:=eP hk2
 obtain⟨hnn,hcu⟩:=xT hc
 have ndm1:(m.map (·.1)).Nodup:=by rw[aad] at nd1;exact(aaj.1 nd1).1
 have ndm2:(m.map (·.2)).Nodup:=by rw[aad] at nd2;exact(aaj.1 nd2).1
 have inv_of:∀{k o},bQ m k=ς o->bQ (inv m) o=ς k:=λh=>dX (by rw[me];exact ndm2) (gQ.2 (cp h))
 have of_inv:∀{k o},bQ (inv m) o=ς k->bQ m k=ς o:=λh=>dX ndm1 (gQ.1 (cp h))
 have inv_of':∀{k o},bQ (m++nl) k=ς o->bQ (inv (m++nl)) o=ς k:=λh=>dX (by rw[me];exact nd2) (gQ.2 (cp h))
 have of_inv':∀{k o},bQ (inv (m++nl)) o=ς k->bQ (m++nl) k=ς o:=λh=>dX nd1 (gQ.1 (cp h))
 have look_m:∀{k o},bQ m k=ς o->bQ (m++nl) k=ς o:=λh=>dX nd1 (Zn.2 (.inl (cp h)))
 have split:∀{k o},bQ (m++nl) k=ς o->bQ m k=ς o\/(k,o)∈nl:=λh=>(Zn.1 (cp h)).imp (dX ndm1) id
 have linj:∀a a' b,bQ m a=ς b->bQ m a'=ς b->a=a':=λa a' b h h'=>by grind
 have linj':∀a a' b,bQ (m++nl) a=ς b->bQ (m++nl) a'=ς b->a=a':=λa a' b h h'=>by grind
 have mrs:∀{k o},bQ m k=ς o->rsv k=ζ/\o<nx:=λh=>⟨(hm1 _ (cp h)).1,bO (hm1 _ (cp h)).2⟩
 have pick:∀{k o},bQ m k=ς o->∃x0 x,go ob o=ς x0/\yH (rlB ob (inv m)) x0=ς x:=λh=>Eb hx (cp h)
 let nilL:Nat->Prop:=λo=>E.n o/\∃t sz els g,go ob o=ς (.rown t sz els g)
 let Ec:Env:={r:=λl=>match bQ m l with|some o=>if nilL o then ξ else E.r o|none=>ξ,F:=E.F,G:=E.G,n:=λl=>∃o,bQ m l=ς o/\E.n o}
 have hEc:∀l p,Ec.r l=ς p->∃o,bQ m l=ς o/\¬nilL o/\E.r o=ς p:=by
  intro l p h
  have h:(match bQ m l with|some o=>if nilL o then ξ else E.r o|none=>ξ)=ς p:=h
  split at h
  .rename_i o h1
   split at h
   .cases h
   grind
  cases h
 have hEc2:∀{l o p},bQ m l=ς o->¬nilL o->E.r o=ς p->Ec.r l=ς p:=by
  intro l o p h1 h2 h3
  show(match bQ m l with|some o=>if nilL o then ξ else E.r o|none=>ξ)=ς p
  rw[h1];simp only[h2,if_false];exact h3
 have hEn:∀{l o},bQ m l=ς o->(Ec.n l↔E.n o):=λh=>⟨λ⟨o',h1,h2⟩=>by grind,λh2=>⟨_,h,h2⟩⟩
 have nF:∀{l o b c},bQ m l=ς o->¬nilL o->E.r o=ς (b,c)->¬E.F b:=by
  intro l o b c h1 h2 h3
  obtain⟨x0,x,a1,a2⟩:=pick h1
  have hx0:=hR.obs o x0 a1
  cases x0 with
  |var t cs=>obtain⟨b',c',arr,k1,k2,k3,k4⟩:=hx0;grind
  |row t sz els g mm=>
   obtain⟨g,rfl,rfl,_⟩:=IH a2
   obtain⟨b',c',arr,k1,k2,k3,k4,k5,k6,k7,k8,_⟩:=hx0;grind
  |rown t sz els g=>
   rcases hx0 with⟨k0,_⟩|⟨_,b',c',arr,k1,k2,k3,k4,k5,k6,k7,k8⟩
   .grind
   grind
  |abs j z=>cases a2
 have hVI:VIn Ec w:=⟨ok.fb,ok.gf,λl b c h=>by
  obtain⟨o,h1,h2,h3⟩:=hEc l _ h
  exact⟨(ok.rb o b c h3).1,(mrs h1).1,nF h1 h2 h3⟩,λl l' b c c' h h'=>by
  obtain⟨o,h1,h2,h3⟩:=hEc l _ h
  obtain⟨o',h1',h2',h3'⟩:=hEc l' _ h'
  have:=ok.inj _ _ _ _ _ h3 h3'
  grind,λ_ _ h=>h.elim,λ_ _ _ h=>h.elim,λ_ _ _ h=>h,λ_ h=>h⟩
 have hcB:∀c c' u,rlB ob (inv m) c=ς c'->cvC E w c u->cvC Ec w c' u:=by
  intro c c' u h hc
  cases c with
  |w l n=>
   simp only[rlB] at h
   split at h
   .rename_i k _ _ _ _ _ h1 h2;cases h
    obtain⟨b,c,h3,h4⟩:=hc
    exact⟨b,c,hEc2 (of_inv h1) (λ⟨_,_,_,_,_,h⟩=>by grind) h3,h4⟩
   cases h
  |wn l n=>
   simp only[rlB] at h
   split at h
   .rename_i k _ _ _ _ h1 h2;cases h
    rcases hc with⟨h3,h4⟩|⟨h3,b,c,h4,h5⟩
    .exact .inl ⟨(hEn (of_inv h1)).2 h3,h4⟩
    exact .inr ⟨λh=>h3 ((hEn (of_inv h1)).1 h),b,c,hEc2 (of_inv h1) (λh=>h3 h.1) h4,h5⟩
   cases h
  |p l n=>
   simp only[rlB] at h
   split at h
   .rename_i k _ _ h1 h2;cases h
    obtain⟨b,c,h3,h4⟩:=hc
    exact⟨b,c,hEc2 (of_inv h1) (λ⟨_,_,_,_,_,h⟩=>by grind) h3,h4⟩
   cases h
  |d g x=>cases g<;>simp only[rlB] at h<;>cases h;rename_i g;cases g<;>exact hc
  |nil=>simp only[rlB] at h;cases h;exact hc
  |any=>simp only[rlB] at h;cases h;trivial
  |fn f=>simp only[rlB] at h;cases h;exact hc
  |_=>simp only[rlB] at h;cases h
 have hcA:∀c c' u,agC up ob (inv m) c=ς c'->cvC E w c u->cvC Ec w c' u:=by
  intro c c' u h hc
  cases c with
  |d g x=>cases g<;>simp only[agC,rlB] at h<;>cases h;rename_i g;exact bP (F:=E.H g) (λ_ _=>rfl) (λb hb=>by cases g<;>cases up<;>first|exact hb|exact ok.gf b hb) x u hc
  |nil=>simp only[agC] at h;cases h;exact⟨ξ,0,hc,Zu _,.inl rfl⟩
  |_=>simp only[agC] at h;grind
 have hX:∀l x,go xs l=ς x->cg Ec w l x:=by
  intro l x h
  obtain⟨o,x0,a1,a2,a3⟩:=Ip hx h
  exact yI a3 hcB (λb c h1 h2=>hEc2 a1 (λ⟨k1,t,sz,els,g,k2⟩=>h1 ⟨k1,t,sz,els,g,by grind⟩) h2) (hEn a1) (λg b h=>by cases g<;>exact h) (λb c h1 h2 h3=>h3) (hR.obs o x0 a2)
 have hA:=yo (a:=a) hcA ha t1 (λx t hm=>by have:=hR.op x;rwa [Lk.mem t2 x t hm] at this)
 have hc:=hF.calls Ec w (args.map a.eval).toArray hVI ok.tabs (λk hk l c h=>by
  obtain⟨o,_,_,h3⟩:=hEc l _ h;exact ok.ntab h3 k hk rfl) hX oaa
 have hent:=hF.enters (args.map a.eval).toArray w
 unfold Oper.wp
 have hrun:(execOp a.eval ⟨ς d,.call ⟨.value (.func f),args.toArray,tys⟩,ty,ps,af,gd⟩).run P w= .ok (.enter f (args.map a.eval).toArray) w:=by
  simp only[execOp,resolve,Act.eval,Deferred.ofValue,Sem.run_bind,Sem.run_pure,Result.andThen_ok,invoke]
  simpa using hent
 rw[hrun,Oper.upon_enter]
 refine hc.mono ?_
 rintro e w' ⟨v,E',rfl,vo,hv,hY,hNW⟩
 have hsz:=vo.past.size
 have f0':∀b,E'.F b->E.F b\/(w.heap.size<=b/\eJ w' b):=λb h=>(vo.f0 b h).imp id λh=>⟨h.1.resolve_right (λ⟨_,h⟩=>h),h.2⟩
 have g0':∀b,E'.G b->w.heap.size<=b\/E.G b:=λb h=>(vo.g0 b h).imp id λh=>h.resolve_right (λ⟨_,h⟩=>h)
 let E2:Env:={r:=λl=>match bQ (inv (m++nl)) l with|some k=>E'.r k|none=>E.r l,F:=E'.F,G:=E'.G,T:=E.T,Z:=E.Z,n:=λl=>match bQ (inv (m++nl)) l with|some k=>E'.n k|none=>E.n l}
 have e2r:∀{k o},bQ (m++nl) k=ς o->E2.r o=E'.r k:=λh=>by grind
 have e2n:∀{k o},bQ (m++nl) k=ς o->(E2.n o↔E'.n k):=λh=>by grind
 have e2r0:∀{o},bQ (inv (m++nl)) o=ξ->E2.r o=E.r o:=λh=>by grind
 have e2n0:∀{o},bQ (inv (m++nl)) o=ξ->(E2.n o↔E.n o):=λh=>by grind
 have e2c:∀l b c,E2.r l=ς (b,c)->(∃k,bQ (m++nl) k=ς l/\E'.r k=ς (b,c))\/(bQ (inv (m++nl)) l=ξ/\E.r l=ς (b,c)):=by
  intro l b c h
  cases h1:bQ (inv (m++nl)) l with
  |some k=>exact .inl ⟨k,of_inv' h1,by grind⟩
  |none=>grind
 have oldB:∀{k b c},E'.r k=ς (b,c)->w.heap.size<=b\/∃l o c',bQ m l=ς o/\¬nilL o/\E.r o=ς (b,c')/\rsv k=true:=by
  intro k b c h
  rcases(vo.rb k b c h).2 with(h|⟨_,h⟩)|⟨⟨l,c',h⟩,h2⟩
  .exact .inl h
  .exact h.elim
  obtain⟨o,h3,h4,h5⟩:=hEc l _ h;grind
 have none_of:∀{o},(∀k,bQ m k≠ς o)->o<nx->bQ (inv (m++nl)) o=none:=by
  intro o h1 h2
  cases h:bQ (inv (m++nl)) o with
  |none=>rfl
  |some k=>
   rcases split (of_inv' h) with h3|h3
   .grind
   grind
 have hnot:∀{o},bQ (inv (m++nl)) o=ξ->∀k,bQ m k≠ς o:=λh k h1=>by grind
 have hheap:∀k,k<w.heap.size->(∀l o c,bQ m l=ς o->¬nilL o->E.r o≠ς (k,c))->w'.heap[k]?=w.heap[k]?:=λk hk h=>vo.past.block k hk (λh1=>by
  obtain⟨l,c,h1⟩:=h1.resolve_right (λ⟨_,h⟩=>h)
  obtain⟨o,h2,h3,h4⟩:=hEc l _ h1;grind)
 have hFh:∀b,E.F b->w'.heap[b]?=w.heap[b]?:=λb hb=>hheap b (ok.fb b hb) (λl o c h1 h2 h3=>nF h1 h2 h3 hb)
 have hHh:∀(g:Bool) b,E.H g b->w'.heap[b]?=w.heap[b]?:=λg b hb=>hFh b (by cases g;exact hb;exact ok.gf b hb)
 have hTh:∀l b,E.T l b->w'.heap[b]?=w.heap[b]?:=λl b hb=>hheap b (ok.sf.tb l b hb).1.1 (λ_ o c _ _ h=>(ok.sf.tb l b hb).2.2.1 o c h)
 have hZh:∀b,cx.Z b->w'.heap[b]?=w.heap[b]?:=λb hb=>hheap b (ok.sf.zc b hb).1.2.1 (λ_ o c _ _ h=>(ok.sf.zc b hb).2.2.1 o c h)
 have okE:cF cx E2 w':=by
  refine⟨vo.fb,vo.gf,λb h=>?_,λl b c h=>?_,λl l' b c c' h h'=>?_,by rw[vo.past.os];exact ok.os,by rw[vo.past.tape];exact ok.tape,by rw[vo.past.output];exact ok.output,Zz ok.size hsz,λb h hW=>?_,λl x hv h=>?_,λb h=>?_,λb h h'=>?_,⟨λl b h=>?_,ok.sf.tt,λb h=>?_,λb h=>?_,ok.sf.ze⟩⟩
  .rcases g0' b h with h|h
   .exact .inl (Zz ok.size h)
   exact ok.gn b h
  .rcases e2c l b c h with⟨k,h1,h2⟩|⟨h1,h2⟩
   .refine⟨(vo.rb k b c h2).1,?_⟩
    rcases oldB h2 with h3|⟨l',o',c',h3,h4,h5,h6⟩
    .exact .inl (.inl (Zz ok.size h3))
    rcases split h1 with h7|h7
    .rcases(ok.rb o' b c' h5).2 with h8|⟨h8,h9⟩
     .exact .inl h8
     refine .inr ⟨h8,?_⟩
     cases hp:rsp k with
     |true=>
      have h10:=vo.pin k _ hp h2
      obtain⟨o2,h11,_,h13⟩:=hEc k _ h10
      rw[h7] at h11;cases h11
      have:=ok.inj _ _ _ _ _ h13 h5
      grind
     |false=>
      rcases hu with hu|hu
      .rcases hu _ (cp h7) with h10|h10
       .grind
       exact h10
      rcases hu _ (cp h3) with h10|h10
      .have h11:rsp l'=true:=h10
       have h12:=inv_of h3
       exfalso
       have hy2:(go ys l').isSome=true:=(hm2 _ (cp h3)).2.2
       have hv2:QZ ys l'=true:=((hm2 _ (cp h3)).2.1).resolve_left (by simp[h11])
       unfold QZ at hv2
       split at hv2
       .rename_i t cs hg
        obtain⟨b1,c1,arr,q1,_⟩:=hY _ _ hg
        have q2:=vo.pin l' _ h11 q1
        obtain⟨o2,q3,_,q4⟩:=hEc l' _ q2
        rw[h3] at q3;cases q3
        rw[h5] at q4;cases q4
        have:=vo.inj _ _ _ _ _ q1 h2
        grind
       cases hv2
      grind
    grind
   have:=ok.rb l b c h2;grind
  .rcases e2c l b c h with⟨k,h1,h2⟩|⟨h1,h2⟩<;>rcases e2c l' b c' h' with⟨k',h1',h2'⟩|⟨h1',h2'⟩
   .have:=vo.inj _ _ _ _ _ h2 h2'
    grind
   .exfalso
    rcases oldB h2 with h3|⟨l2,o2,c2,h3,h4,h5,_⟩
    .have:=(ok.rb _ _ _ h2').1;omega
    have:=ok.inj _ _ _ _ _ h5 h2'
    subst this
    exact hnot h1' _ h3
   .exfalso
    rcases oldB h2' with h3|⟨l2,o2,c2,h3,h4,h5,_⟩
    .have:=(ok.rb _ _ _ h2).1;omega
    have:=ok.inj _ _ _ _ _ h5 h2
    subst this
    exact hnot h1 _ h3
   exact ok.inj _ _ _ _ _ h2 h2'
  .rw[hheap b (Zy h ok.size) (λl o c h1 h2 h3=>by
    exact(ok.rw h3).elim (λ_=>by omega) hW)]
   exact ok.block b h hW
  .obtain⟨b,c⟩:=x
   rcases e2c l b c h with⟨k,h1,h2⟩|⟨_,h2⟩
   .rcases split h1 with h7|h7
    .have hk:rsp k=true:=((hm2 _ (cp h7)).1).resolve_left (by simp[hv])
     obtain⟨o2,q3,_,q4⟩:=hEc k _ (vo.pin k _ hk h2)
     rw[h7] at q3;cases q3
     exact ok.pin l _ hv q4
    have:=(hcu _ _ h7).2.2.1
    have h9:=AX hv
    grind
   exact ok.pin l _ hv h2
  .rcases f0' b h with h|h
   .exact ok.ff b h
   exact .inr (Zz ok.size h.1)
  .rcases f0' b h with h|h
   .exact(ok.gc b h h').of_eq (hFh b h)
   exact h.2
  .obtain⟨k1,k2,k3,k4⟩:=ok.sf.tb l b h
   refine⟨⟨by omega,k1.2⟩,λhf=>?_,λo c ho=>?_,k4.of_eq (hTh l b h)⟩
   .rcases f0' b hf with hf|hf
    .exact k2 hf
    omega
   rcases e2c o b c ho with⟨k,_,h2⟩|⟨_,h2⟩
   .rcases oldB h2 with h3|⟨l2,o2,c2,h3,h4,h5,_⟩
    .omega
    exact k3 _ _ h5
   grind
  .obtain⟨k1,k2,k3,k4⟩:=ok.sf.zc b h
   refine⟨⟨k1.1,by omega,k1.2.2⟩,λhf=>?_,λo c ho=>?_,k4.of_eq (hZh b h)⟩
   .rcases f0' b hf with hf|hf
    .exact k2 hf
    omega
   rcases e2c o b c ho with⟨k,_,h2⟩|⟨_,h2⟩
   .rcases oldB h2 with h3|⟨l2,o2,c2,h3,h4,h5,_⟩
    .omega
    exact k3 _ _ h5
   grind
  exact(ok.sf.zs b h).trans (.of_eq (hZh b h))
 have hHm:∀(g:Bool) b,E.H g b->E2.H g b:=λg b h=>by cases g;exact vo.F b h;exact vo.G b h
 have hHh':∀(g:Gr) b,E.H g b->w'.heap[b]?=w.heap[b]?:=λg b h=>by
  cases g with
  |b g=>exact hHh g b h
  |s n=>exact hTh n b h
  |t n=>exact hTh n b h
 have hHm':∀(g:Gr) b,E.H g b->E2.H g b:=λg b h=>by
  cases g with
  |b g=>exact hHm g b h
  |s n=>exact h
  |t n=>exact h
 have hgk:∀{g:Gr} {x:D} {u:Value},gD E w g x u->gD E2 w' g x u:=λ{g x u} h=>by
  cases g with
  |b g=>exact bP (hHh' (.b g)) (hHm' (.b g)) x u h
  |s n=>exact bP (hHh' (.s n)) (hHm' (.s n)) x u h
  |t n=>
   exact h.keep (λb hb=>hTh n b hb) (λ_ hb=>hb)
 have hrg:∀{g:Gr} {els:Lad} {b:Nat},w'.heap[b]?=w.heap[b]?->qR E w els b g->qR E2 w' els b g:=λ{g els b} hb h=>by
  cases g with
  |b g=>trivial
  |s n=>
   exact db.keep h hb (λb hb=>hTh n b hb) (λ_ hb=>hb)
  |t n=>
   exact db.keep h hb (λb hb=>hTh n b hb) (λ_ hb=>hb)
 have hkv:∀c c' u,c.lt nx=ζ->kvC (inv m) c=ς c'->cvC E w c u->cvC E2 w' c' u:=by
  intro c c' u hl h hc
  have hnone:∀{l},bQ (inv m) l=ξ->l<nx->bQ (inv (m++nl)) l=none:=λh1 h2=>none_of (λk h3=>by grind) h2
  cases c with
  |d g x=>simp only[kvC] at h;cases h;exact hgk hc
  |w l n=>
   simp only[kvC] at h
   split at h
   .cases h;trivial
   rename_i h1;cases h
   obtain⟨b,c,h3,h4⟩:=hc
   exact⟨b,c,by rw[e2r0 (hnone h1 (bO hl))];exact h3,h4⟩
  |wn l n=>
   simp only[kvC] at h
   split at h
   .cases h;trivial
   rename_i h1;cases h
   have h2:=hnone h1 (bO hl)
   rcases hc with⟨h3,h4⟩|⟨h3,b,c,h4,h5⟩
   .exact .inl ⟨(e2n0 h2).2 h3,h4⟩
   exact .inr ⟨λh=>h3 ((e2n0 h2).1 h),b,c,by grind,h5⟩
  |s l a1 a2 a3=>
   simp only[kvC] at h
   split at h
   .cases h;trivial
   rename_i h1;cases h
   obtain⟨A,c,b,k,h3,h4⟩:=hc
   exact⟨A,c,b,k,by rw[e2r0 (hnone h1 (bO hl))];exact h3,h4⟩
  |e l a1 a2 a3=>
   simp only[kvC] at h
   split at h
   .cases h;trivial
   rename_i h1;cases h
   obtain⟨b,c,h3,h4⟩:=hc
   exact⟨b,c,by rw[e2r0 (hnone h1 (bO hl))];exact h3,h4⟩
  |p l j=>
   simp only[kvC] at h
   split at h
   .rename_i k h1
    split at h
    .rename_i hp
     cases h
     obtain⟨b,c,h3,h4⟩:=hc
     have h5:=of_inv h1
     have hv2:QZ ys k=true:=((hm2 _ (cp h5)).2.1).resolve_left (by simp[hp])
     unfold QZ at hv2
     split at hv2
     .rename_i t cs hg
      obtain⟨b1,c1,arr,q1,_⟩:=hY _ _ hg
      obtain⟨o2,q3,_,q4⟩:=hEc k _ (vo.pin k _ hp q1)
      rw[h5] at q3;cases q3
      rw[h3] at q4;cases q4
      exact⟨b,c,by rw[e2r (look_m h5)];exact q1,h4⟩
     cases hv2
    cases h;trivial
   rename_i h1;cases h
   obtain⟨b,c,h3,h4⟩:=hc
   exact⟨b,c,by rw[e2r0 (hnone h1 (bO hl))];exact h3,h4⟩
  |q g y j=>
   simp only[kvC] at h;cases h
   obtain⟨b,k,h1,h2,h3⟩:=hc
   exact⟨b,k,h1,hHm' g b h2,rdL_mono (hHh' g) (hHm' g) y b k h2 h3⟩
  |fn f=>simp only[kvC] at h;cases h;exact hc
  |nil=>simp only[kvC] at h;cases h;exact hc
  |any=>simp only[kvC] at h;cases h;trivial
  |r l x=>simp only[kvC] at h;cases h;exact bP (λb hb=>hTh l b hb) (λb hb=>hb) x u hc
  |z x=>simp only[kvC] at h;cases h;exact qy (λb hb=>.of_eq (hZh b (ok.sf.ze b hb))) (λb hb=>hb) x u hc
  |zq x j=>
   simp only[kvC] at h;cases h
   obtain⟨b,k,h1,h2,h3⟩:=hc
   exact⟨b,k,h1,h2,rsL_mono (λb hb=>.of_eq (hZh b (ok.sf.ze b hb))) (λb hb=>hb) x b k h2 h3⟩
 have hrl:∀c c' u,rlC (m++nl) c=ς c'->cvC E' w' c u->cvC E2 w' c' u:=by
  intro c c' u h hc
  cases c with
  |w l n=>
   simp only[rlC] at h
   split at h
   .rename_i k h1;cases h
    obtain⟨b,c,h3,h4⟩:=hc
    exact⟨b,c,by grind,h4⟩
   cases h
  |wn l n=>
   simp only[rlC] at h
   split at h
   .rename_i k h1;cases h
    rcases hc with⟨h3,h4⟩|⟨h3,b,c,h4,h5⟩
    .exact .inl ⟨(e2n h1).2 h3,h4⟩
    exact .inr ⟨λh=>h3 ((e2n h1).1 h),b,c,by grind,h5⟩
   cases h
  |p l n=>
   simp only[rlC] at h
   split at h
   .rename_i k h1;cases h
    obtain⟨b,c,h3,h4⟩:=hc
    exact⟨b,c,by grind,h4⟩
   cases h
  |s l x y z=>
   simp only[rlC] at h
   split at h
   .rename_i k h1;cases h
    obtain⟨A,q,b,c,h3,h4⟩:=hc
    exact⟨A,q,b,c,by grind,h4⟩
   cases h
  |d g x=>cases g<;>simp only[rlC] at h<;>cases h;rename_i g;cases g<;>exact hc
  |nil=>simp only[rlC] at h;cases h;exact hc
  |any=>simp only[rlC] at h;cases h;trivial
  |fn f=>simp only[rlC] at h;cases h;exact hc
  |_=>simp only[rlC] at h;cases h
 have hrel:∀{k o:Nat} {y y':Ob},bQ (m++nl) k=ς o->yH (rlC (m++nl)) y=ς y'->cg E' w' k y->cg E2 w' o y':=λh1 h2 h3=>
  yI h2 hrl (λb c _ h=>by grind) (e2n h1) (λg b h=>by cases g<;>exact h) (λb c _ _ h=>h) h3
 refine⟨E2,okE,λl x h=>?_,λl y hl=>?_,λk=>?_,hR.dfr,by simpa [Act.put] using hR.size,λl b h=>Zy (hR.td l b h) hnn⟩
 .obtain⟨b,c⟩:=x
  rcases e2c l b c h with⟨k,h1,_⟩|⟨_,h2⟩
  .rcases split h1 with h3|h3
   .exact Zy (mrs h3).2 hnn
   grind
  exact Zy (hR.dom l _ h2) hnn
 .rcases Fo hl with h|⟨_,h⟩
  .obtain⟨k,y0,h1,h2,h3⟩:=Cn linj' hw h
   exact hrel h1 h3 (hNW _ _ h2)
  rcases Fo h with h|⟨h0,h⟩
  .obtain⟨k,y0,h1,h2,h3⟩:=Cn linj' hy h
   exact hrel h1 h3 (hY _ _ h2)
  .
    have hnm:∀k,bQ m k≠ς l:=λk h1=>by
     have h2:=(hm2 _ (cp h1)).2.2
     cases h3:go ys k with
     |none=>grind
     |some y0=>
      obtain⟨o,h4,h5⟩:=Co hy h3
      grind
    have hno:∀b c,E.r l=ς (b,c)->w'.heap[b]?=w.heap[b]?:=λb c hr=>hheap b (ok.rb l b c hr).1 (λl' o' c' h1 _ h3=>by
     have:=ok.inj _ _ _ _ _ hr h3
     subst this
     exact hnm _ h1)
    have hFn:∀b c,E.r l=ς (b,c)->¬E.F b->¬E2.F b:=λb c hr hn hf=>(f0' b hf).elim hn (λh=>by have:=(ok.rb l b c hr).1;omega)
    rcases pf hb h with⟨t,cs,cs',g1,g2,rfl⟩|⟨x0,g1,g2,g3⟩
    .obtain⟨hln,hxl⟩:=qo hol g1
     have e1:=e2r0 (none_of hnm hln)
     obtain⟨b,c,arr,k1,k2,k3,k4⟩:=hR.obs l _ g1
     refine⟨b,c,arr,by grind,(hno b c k1).trans k2,?_,hFn b c k1 k4⟩
     have key:∀(cs cs':List C) (us:Lae),cs.all (C.lt nx)=ζ->jG (kvC (inv m)) cs=ς cs'->CV E w cs us->CV E2 w' cs' us:=by
      intro cs
      induction cs with
      |nil=>intro cs' us _ h hc;simp[jG] at h;subst h;cases us with
       |nil=>trivial
       |cons _ _=>exact hc.elim
      |cons c cs ih=>
       intro cs' us hl h hc
       simp only[ZR,hV] at hl
       cases us with
       |nil=>exact hc.elim
       |cons u us=>
        simp only[jG] at h
        split at h
        .rename_i h1 h2;simp at h;subst h;exact⟨hkv _ _ _ hl.1 h1 hc.1,ih _ _ hl.2 h2 hc.2⟩
        cases h
     exact key _ _ _ hxl g2 k3
    cases g3
    obtain⟨hln,hxl⟩:=qo hol g1
    have e1:=e2r0 (none_of hnm hln)
    have e3:=e2n0 (none_of hnm hln)
    have hx0:=hR.obs l _ g1
    cases y with
    |var t cs=>grind
    |row t sz els g mm=>
     obtain⟨b,c,arr,k1,k2,k3,k4,k5,k6,k7,k8,k9⟩:=hx0
     exact⟨b,c,arr,by grind,(hno b c k1).trans k2,k3,k4,k5,k6,bS (hHh' g) (hHm' g) (hno b c k1) _ _ k7,λhm=>hFn b c k1 (k8 hm),λhm=>⟨hHm η b (k9.1 hm).1,λhg=>hHm ζ b ((k9.1 hm).2 hg)⟩,hrg (hno b c k1) k9.2⟩
    |rown t sz els g=>
     rcases hx0 with⟨k1,k2⟩|⟨k0,b,c,arr,k1,k2,k3,k4,k5,k6,k7,k8⟩
     .exact .inl ⟨e3.2 k1,k2⟩
     exact .inr ⟨λh=>k0 (e3.1 h),b,c,arr,by grind,(hno b c k1).trans k2,k3,k4,k5,k6,bS (hHh' g) (hHm' g) (hno b c k1) _ _ k7,hFn b c k1 k8.1,hrg (hno b c k1) k8.2⟩
    |abs j z=>
     rcases hx0 with⟨k1,k2⟩|⟨k0,b,c,k1,k2,k3⟩
     .exact .inl ⟨e3.2 k1,k2⟩
     exact .inr ⟨λh=>k0 (e3.1 h),b,c,by grind,z.st _ _ _ _ _ _ k2 (λk hk=>hk) (hno b c k1) (λk hk=>hTh j k hk),hFn b c k1 k3⟩
 rw[eK (by rw[hR.size];exact bO hN)]
 by_cases hdk:d=k
 .subst hdk;rw[cG,if_pos rfl];exact vS hrl ho hv
 rw[b7 _ _ hdk,if_neg hdk]
 rw[<-FF hsl] at hs
 refine tU (λc c' u h hc=>?_) hs (hR.sl k)
 unfold ltF at h
 cases hl:c.lt nx with
 |true=>grind
 |false=>rw[hl] at h;cases h;trivial
theorem cwv{d:Tmp}{ob ob1 ob2:Laa}{xs ys' nw nw':Laa}(m nl:Lac)(n:Nat)(hF:FnV P f xs ts' ys out nw)(ht:ni sl args=ς ts:=by exact rfl)(ha:og (agC η ob (inv m)) ts=ς ts':=by exact rfl)(hx:wL (inv m) ob m=ς xs:=by exact rfl)(hm:mOK m nl nx n ys=true:=by exact rfl)(hs:lL (kvC (inv m)) sl=ς sl':=by exact rfl)(hb:kr (kvC (inv m)) (λ_ x=>ς x) ob=ς ob':=by exact rfl)(hy:qx (m++nl) ys=ς ys':=by exact rfl)(hw:qx (m++nl) nw=ς nw':=by exact rfl)(ho:sJ (rlC (m++nl)) out=ς out':=by exact rfl)(hsl:uF nx sl=true:=by exact rfl)(hol:oR nx ob=true:=by exact rfl)(hN:nlt d N=true:=by exact rfl)(h1:apO ys' ob'=ς ob1:=by exact rfl)(h2:apO nw' ob1=ς ob2:=by exact rfl):
 AWO P N ⟨ς d,.call ⟨.value (.func f),args.toArray,tys⟩,ty,ps,af,gd⟩ ⟨sl,ob,nx⟩ ⟨(d,out')::sl',ob2,n⟩:=by
 rw[mY h2,mY h1]
 exact FY hF ht ha hx hm hs hb hy hw ho hsl hol hN
theorem cwu{d:Tmp}{ob ob1 ob2:Laa}{xs ys' nw nw':Laa}(m nl:Lac)(n:Nat)(hF:FnV P f xs ts' ys out nw)(ht:ni sl args=ς ts:=by exact rfl)(ha:og (agC ζ ob (inv m)) ts=ς ts':=by exact rfl)(hx:wL (inv m) ob m=ς xs:=by exact rfl)(hm:mOK m nl nx n ys=true:=by exact rfl)(hs:lL (kvC (inv m)) sl=ς sl':=by exact rfl)(hb:kr (kvC (inv m)) (λ_ x=>ς x) ob=ς ob':=by exact rfl)(hy:qx (m++nl) ys=ς ys':=by exact rfl)(hw:qx (m++nl) nw=ς nw':=by exact rfl)(ho:sJ (rlC (m++nl)) out=ς out':=by exact rfl)(hsl:uF nx sl=true:=by exact rfl)(hol:oR nx ob=true:=by exact rfl)(hN:nlt d N=true:=by exact rfl)(h1:apO ys' ob'=ς ob1:=by exact rfl)(h2:apO nw' ob1=ς ob2:=by exact rfl):
 AWO P N ⟨ς d,.call ⟨.value (.func f),args.toArray,tys⟩,ty,ps,af,gd⟩ ⟨sl,ob,nx⟩ ⟨(d,out')::sl',ob2,n⟩:=by
 rw[mY h2,mY h1]
 exact FY hF ht ha hx hm hs hb hy hw ho hsl hol hN
end Go.AM
