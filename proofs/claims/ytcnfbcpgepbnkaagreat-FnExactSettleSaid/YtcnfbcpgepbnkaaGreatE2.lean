/- A part. -/
import Derived.Test.YtcnfbcpgepbnkaaGreatE1
import Derived.Laws.StructEq
import Derived.Laws.BytesString
set_option linter.unusedVariables false
set_option linter.unusedSimpArgs false
set_option maxHeartbeats 4000000
open Option renaming some->ς,none->ξ
open Bool renaming true->ζ,false->η
open True renaming intro->θ
open Nat renaming beq->fW,eq_of_beq_eq_true->aat,lt_of_lt_of_le->aci,zero_add->aa5,le_of_ble_eq_true->adp,lt_or_ge->ac9,le_refl->abk,le_trans->acR,min_eq_left->ad1,zero_le->abm,lt_trichotomy->aei,not_lt->aec,ble->abD,add_zero->adC
open Bool renaming and_eq_true->f4,false_ne_true->adS,or_eq_true->adf,or_eq_false_iff->adc,eq_false_iff->ad5,not_eq_true'->ac8,not_true->ad7
open List renaming getElem?_eq_some_iff->f5,mem_of_getElem?->v0,all_eq_true->aa4,getElem?_eq_getElem->hV,pairwise_iff_getElem->adl,mem_cons->aa2,range->f6,take_succ_cons->ado,getElem?_append_right->aa3,cons_append->ade,length_cons->acn,mem_append->aau,map_cons->adU,all_cons->adm,getElem?_append_left->aa8,eq_nil_of_length_eq_zero->adn,mem_of_mem_take->adk,getElem?_of_mem->ac7,getD_eq_getElem?_getD->aek,map_append->adZ,getElem?_take->adj,length_eq_zero_iff->aea,filter_cons_of_pos->aed,filter_cons_of_neg->aee,nodup_append->ad6,findIdx?_eq_some_iff_getElem->adF,any_eq_true->adi,map_nil->ad3,mem_map->adP,flatten_append->ad2,drop_drop->ad4,length_append->ads,exists_mem_of_ne_nil->aej,findIdx?_eq_none_iff->adJ,length_take->ad0,map_toArray->ad8,nodup_cons->adH,filter_eq_nil_iff->ael,map_take->aeb,drop_succ_cons->aep,getElem?_drop->adE,mem_singleton->ad9,filter_congr->aem,nodup_range->aen,length_map->adb,nil_append->adT,take_zero->aeq,drop_zero->aeo,map_drop->aeg
open Array renaming getElem?_eq_getElem->adg,replicate->abw,getElem?_append_left->aeh,ext'->aef
namespace Go.AM
open Go.RowKit
variable{P:Program}{t t' ty:TypeId}{k n b e sz by_ nx N nx' i j l p q:Nat}{x y:Go.AM.Ob}{r:Int}{f:FuncId}{s st:Go.AM.St}{ss:List Go.AM.Sh}{E E':Go.AM.Env}{w w':World}{u:Value}{cs:List Go.AM.C}{α:Type}{els:Go.AM.Lad}{ys ob' nob:Go.AM.Laa}{g gy g':Bool}{sl sl':Go.AM.Lab}{a:Act}{cx:Go.AM.Cx}{ps:String}{af:Array Edge}{args:List Operand}{tys:Array TypeId}{ts ts':List Go.AM.T}{res:List Go.AM.RV}{out:Go.AM.T}{rs:List ResultVar}{v:Go.AM.V}{listed:Array Bool}
def toV:D->Value
 | .i k n=>.int k n
 | .b b=>.bool b
 | .str s=>.string s
 | .l _=>.slice ξ 0 0
 | .k _ _ _=>.slice ξ 0 0
def eqD1:D->D->Bool
 | .i _ a,.i _ b=>eqB a b
 | .b a,.b b=>a==b
 | .str a,.str b=>strB a b
 |_,_=>η
def wY:List D->List D->Bool
 |x::xs,y::ys=>eqD1 x y&&wY xs ys
 |_,_=>ζ
def shB:List Sh->List D->Bool
 |[],[]=>ζ
 | .i k::ss,.i k' _::xs=>decide (k=k')&&shB ss xs
 | .b::ss,.b _::xs=>shB ss xs
 | .str::ss,.str _::xs=>shB ss xs
 |_,_=>η
theorem sR:∀{ss:List Sh} {xs:List D},shB ss xs=ζ->xs.length=ss.length
 |[],[],_=>rfl
 | .i k::ss,.i k' _::xs,h=>by simp[shB] at h;simp[sR h.2]
 | .b::ss,.b _::xs,h=>by simp[shB] at h;simp[sR h]
 | .str::ss,.str _::xs,h=>by simp[shB] at h;simp[sR h]
 |[],_::_,h=>by simp[shB] at h
 | .i _::_,[],h=>by simp[shB] at h
 | .i _::_,.b _::_,h=>by simp[shB] at h
 | .i _::_,.str _::_,h=>by simp[shB] at h
 | .i _::_,.l _::_,h=>by simp[shB] at h
 | .i _::_,.k _ _ _::_,h=>by simp[shB] at h
 | .b::_,[],h=>by simp[shB] at h
 | .b::_,.i _ _::_,h=>by simp[shB] at h
 | .b::_,.str _::_,h=>by simp[shB] at h
 | .b::_,.l _::_,h=>by simp[shB] at h
 | .b::_,.k _ _ _::_,h=>by simp[shB] at h
 | .str::_,[],h=>by simp[shB] at h
 | .str::_,.i _ _::_,h=>by simp[shB] at h
 | .str::_,.b _::_,h=>by simp[shB] at h
 | .str::_,.l _::_,h=>by simp[shB] at h
 | .str::_,.k _ _ _::_,h=>by simp[shB] at h
 | .l _::_,[],h=>by simp[shB] at h
 | .l _::_,_::_,h=>by simp[shB] at h
theorem xZ:∀{s1 s2:List Sh} {xs:List D},shB (s1++s2) xs=ζ->shB s1 (xs.take s1.length)=ζ/\shB s2 (xs.drop s1.length)=ζ
 |[],s2,xs,h=>by simpa [shB] using h
 | .i k::s1,s2,.i k' n::xs,h=>by
  simp only[ade,shB,f4] at h
  obtain⟨h1,h2⟩:=xZ h.2
  exact⟨by simp only[acn,ado,shB,f4];simp_all,by simp_all⟩
 | .b::s1,s2,.b n::xs,h=>by
  simp only[ade,shB] at h
  obtain⟨h1,h2⟩:=xZ h
  exact⟨by simp only[acn,ado,shB];exact h1,by simp_all⟩
 | .str::s1,s2,.str n::xs,h=>by
  simp only[ade,shB] at h
  obtain⟨h1,h2⟩:=xZ h
  exact⟨by simp only[acn,ado,shB];exact h1,by simp_all⟩
 | .i _::_,_,[],h=>by simp[shB] at h
 | .i _::_,_,.b _::_,h=>by simp[shB] at h
 | .i _::_,_,.str _::_,h=>by simp[shB] at h
 | .i _::_,_,.l _::_,h=>by simp[shB] at h
 | .i _::_,_,.k _ _ _::_,h=>by simp[shB] at h
 | .b::_,_,[],h=>by simp[shB] at h
 | .b::_,_,.i _ _::_,h=>by simp[shB] at h
 | .b::_,_,.str _::_,h=>by simp[shB] at h
 | .b::_,_,.l _::_,h=>by simp[shB] at h
 | .b::_,_,.k _ _ _::_,h=>by simp[shB] at h
 | .str::_,_,[],h=>by simp[shB] at h
 | .str::_,_,.i _ _::_,h=>by simp[shB] at h
 | .str::_,_,.b _::_,h=>by simp[shB] at h
 | .str::_,_,.l _::_,h=>by simp[shB] at h
 | .str::_,_,.k _ _ _::_,h=>by simp[shB] at h
 | .l _::_,_,[],h=>by simp[shB] at h
 | .l _::_,_,_::_,h=>by simp[shB] at h
theorem Hi:∀(n:Nat) (xs ys:List D),xs.length=ys.length->wY xs ys=(wY (xs.take n) (ys.take n)&&wY (xs.drop n) (ys.drop n))
 |0,xs,ys,_=>by simp[wY]
 |n+1,[],[],_=>by simp[wY]
 |n+1,x::xs,y::ys,h=>by
  simp only[ado,aep,wY]
  rw[Hi n xs ys (by simpa using h),Bool.and_assoc]
 |n+1,[],_::_,h=>by simp at h
 |n+1,_::_,[],h=>by simp at h
def vS(xs:List D):Array Value:=(xs.map toV).toArray
def EqS(P:Program)(t:TypeId)(s:Sh):Prop:=∀(d:Nat) (w:World) (x y:D),shB [s] [x]=ζ->shB [s] [y]=ζ->(Op.equalIn (d+1) t (toV x) (toV y)).run P w= .ok (eqD1 x y) w
def EqA(P:Program)(k:Nat)(t:TypeId)(ss:List Sh):Prop:=∀(d:Nat) (w:World) (xs ys:List D),k<=d->shB ss xs=ζ->shB ss ys=ζ->(Op.equalIn d t (.agg (vS xs)) (.agg (vS ys))).run P w= .ok (wY xs ys) w
def EqF(P:Program)(k:Nat)(o:Nat)(fs:List Field)(ss:List Sh):Prop:=∀(d:Nat) (w:World) (X Y:List D),k<=d->shB ss (X.drop o)=ζ->shB ss (Y.drop o)=ζ->(Op.eqFields d (vS X) (vS Y) fs).run P w= .ok (wY (X.drop o) (Y.drop o)) w
theorem cM{k:IntKind}(h:P.underlying t=ς (.int k)):EqS P t (.i k):=by
 intro d w x y hx hy
 cases x<;>simp[shB] at hx
 cases y<;>simp[shB] at hy
 subst hx;subst hy
 rw[toV,toV,run_equalIn_int w d t _ k _ _ h]
 simp[eqD1,eqB,Sf]
theorem gS{o:Nat}:EqF P k o [] []:=by
 intro d w X Y hd hx hy
 have h1:=sR hx
 have h2:=sR hy
 rw[aea.1 h1,aea.1 h2]
 rfl
theorem aak{X:List D}{o:Nat}{x:D}{r:List D}(h:X.drop o=x::r):(vS X)[o]?=ς (toV x):=by
 have:X[o]?=ς x:=by
  have:=adE (xs:=X) (i:=o) (j:=0)
  rw[h] at this
  simpa using this.symm
 simp[vS,this]
theorem dQ{o:Nat}{f:Field}{fs:List Field}{s:Sh}(ho:f.offset=o)(hn:f.name≠ "_")(hs:g9 P f.type)(he:EqS P f.type s)(h:EqF P (k+1) (o+1) fs ss):EqF P (k+1) o (f::fs) (s::ss):=by
 intro d w X Y hd hx hy
 obtain⟨d,rfl⟩:∃d',d=d'+1:=⟨d-1,by omega⟩
 have l1:=sR hx
 have l2:=sR hy
 cases hX:X.drop o with
 |nil=>simp_all
 |cons x X'=>
  cases hY:Y.drop o with
  |nil=>simp_all
  |cons y Y'=>
   rw[hX] at hx;rw[hY] at hy
   have a1:=xZ (s1:=[s]) (s2:=ss) hx
   have a2:=xZ (s1:=[s]) (s2:=ss) hy
   simp only[acn,List.length_nil,aa5,ado,aeq,aep,aeo] at a1 a2
   have e1:X.drop (o+1)=X':=by rw[<-ad4,hX];rfl
   have e2:Y.drop (o+1)=Y':=by rw[<-ad4,hY];rfl
   have ih:=h (d+1) w X Y hd (by simp_all) (by simp_all)
   simp only[Op.eqFields,hn,ne_eq,not_false_eq_true,if_true,Sem.run_bind,part,hs.h,Result.andThen_ok,ho,aak hX,aak hY,Sem.run_pure,Bool.false_eq_true,if_false,he d w x y a1.1 a2.1]
   rw[wY,<-e1,<-e2]
   cases hq:eqD1 x y
   .simp
   simp_all
theorem ac3{X:List D}{o:Nat}:(vS X).extract o (o+n)=vS ((X.drop o).take n):=by
 apply aef
 simp[vS,aeg,aeb,List.extract_eq_take_drop]
theorem Ko{k' o:Nat}{f:Field}{fs:List Field}{s1:List Sh}(ho:f.offset=o)(hn:f.name≠ "_")(hs:en P f.type n)(hl:s1.length=n)(hk:k'<=k)(he:EqA P k' f.type s1)(h:EqF P k (o+n) fs ss):EqF P k o (f::fs) (s1++ss):=by
 intro d w X Y hd hx hy
 have l1:=sR hx
 have l2:=sR hy
 have a1:=xZ hx
 have a2:=xZ hy
 rw[hl] at a1 a2
 have ih:=h d w X Y hd (by simp_all) (by simp_all)
 obtain⟨i,hi,hin⟩:=hs.n
 simp only[Op.eqFields,hn,ne_eq,not_false_eq_true,if_true,Sem.run_bind,part,hs.h,Result.andThen_ok,ho,ey hi,hin,ac3,Sem.run_pure,he d w _ _ oaa a1.1 a2.1]
 rw[Hi n (X.drop o) (Y.drop o) oaa,ad4,ad4]
 cases hq:wY ((X.drop o).take n) ((Y.drop o).take n)
 .simp
 simp_all
theorem ed{fs:Array Field}(hu:P.underlying t=ς (.struct fs))(hp:P.stoodInHeld t=η)(h:EqF P k 0 fs.toList ss):EqA P (k+1) t ss:=by
 intro d w xs ys hd hx hy
 obtain⟨d,rfl⟩:∃d',d=d'+1:=⟨d-1,by omega⟩
 have hf:P.fieldsOf t=fs:=by simp[Program.fieldsOf,hu]
 rw[run_equalIn_struct w d t _ _ (by simp_all) hp,hf]
 have:=h d w xs ys oaa (by simp_all) (by simp_all)
 simp_all
class rZ(P:Program)(t:TypeId)(ss:outParam (List Sh)):Prop where
 h:∃k,k<=10000/\EqA P k t ss
 g:P.eqGuardType P.depth t=η
def TY:C->Option D
 | .d _ (.i k n)=>ς (.i k n)
 | .d _ (.b b)=>ς (.b b)
 | .d _ (.str s)=>ς (.str s)
 |_=>ξ
def rP:List C->Option (List D)
 |[]=>ς []
 |c::cs=>match TY c,rP cs with
  |some x,ς xs=>ς (x::xs)
  |_,_=>ξ
theorem ZG{c:C}{x:D}(h:TY c=ς x)(hc:cvC E w c u):u=toV x:=by
 cases c with
 |d g y=>cases y<;>simp[TY] at h<;>subst h<;>simpa [rdD,toV] using tk hc
 |_=>simp[TY] at h
theorem wD{E:Env}{w:World}:∀{cs:List C} {xs:List D} {us:Lae},rP cs=ς xs->CV E w cs us->us=xs.map toV
 |[],xs,[],h,_=>by simp[rP] at h;subst h;rfl
 |[],_,_::_,_,hc=>hc.elim
 |c::cs,xs,[],h,hc=>hc.elim
 |c::cs,xs,u::us,h,hc=>by
  simp only[rP] at h
  split at h
  .rename_i x xs' h1 h2
   simp at h;subst h
   rw[adU,ZG h1 hc.1,wD h2 hc.2]
  cases h
section
variable{P:Program}{N:Nat}{d:Tmp}{ty:TypeId}{ps:String}{af:Array Edge}{gd:Option (Nat×Bool)}{x y z:Operand}{sl:Lab}{ob:Laa}{nx:Nat}
theorem TI[h:rZ P t ss]{as bs:List D}(h1:shB ss as=ζ)(h2:shB ss bs=ζ)(w:World)(o:BinOp)(ho:o= .eql\/o= .neq)(x y:Operand):
 ((do eqGuard o t x y (.agg (vS as)) (.agg (vS bs));binOp o t (.agg (vS as)) (.agg (vS bs))):Sem Value).run P w= .ok (.bool (if o= .eql then wY as bs else !wY as bs)) w:=by
 obtain⟨k,hk,he⟩:=h.h
 have:=he 10000 w as bs hk h1 h2
 rcases ho with rfl|rfl
 .simp[Sem.run_bind,run_eqGuard_agg w _ t x y _ _ h.g,run_eql_struct,this]
 simp[Sem.run_bind,run_eqGuard_agg w _ t x y _ _ h.g,run_neq_struct,this]
theorem n_seq[h:rZ P t ss]{ds:List C}{as bs:List D}(ha:rP cs=ς as)(hb:rP ds=ς bs)(h1:shB ss as=ζ)(h2:shB ss bs=ζ):
 AWN P ⟨ς d,.binOp .eql t x y t',ty,ps,af,gd⟩ [(x,.v (.agg cs)),(y,.v (.agg ds))] [] (tB (wY as bs)) []:=
 cA λE ac w hn _=>by
  obtain⟨a1,hu1,hc1⟩:=hn x _ (.head _)
  obtain⟨a2,hu2,hc2⟩:=hn y _ (.tail _ (.head _))
  have e1:a1=vS as:=by apply aef;simpa [vS] using wD ha hc1
  have e2:a2=vS bs:=by apply aef;simpa [vS] using wD hb hc2
  subst e1;subst e2
  refine⟨_,?_,rfl⟩
  have:=TI (P:=P) (t:=t) h1 h2 w .eql (.inl rfl) x y
  simp only[Sem.run_bind,if_true] at this
  simp only[execOp,hu1,hu2,Sem.run_bind]
  simp_all
theorem n_sne[h:rZ P t ss]{ds:List C}{as bs:List D}(ha:rP cs=ς as)(hb:rP ds=ς bs)(h1:shB ss as=ζ)(h2:shB ss bs=ζ):
 AWN P ⟨ς d,.binOp .neq t x y t',ty,ps,af,gd⟩ [(x,.v (.agg cs)),(y,.v (.agg ds))] [] (tB (!wY as bs)) []:=
 cA λE ac w hn _=>by
  obtain⟨a1,hu1,hc1⟩:=hn x _ (.head _)
  obtain⟨a2,hu2,hc2⟩:=hn y _ (.tail _ (.head _))
  have e1:a1=vS as:=by apply aef;simpa [vS] using wD ha hc1
  have e2:a2=vS bs:=by apply aef;simpa [vS] using wD hb hc2
  subst e1;subst e2
  refine⟨_,?_,rfl⟩
  have:=TI (P:=P) (t:=t) h1 h2 w .neq (.inr rfl) x y
  simp only[Sem.run_bind,reduceCtorEq,if_false] at this
  simp only[execOp,hu1,hu2,Sem.run_bind]
  simp_all
theorem qe{ds:List C}{as bs:List D}[rZ P t ss](hx:opT sl x= .v (.agg cs))(hy:opT sl y= .v (.agg ds))(hN:nlt d N=ζ)(ha:rP cs=ς as)(hb:rP ds=ς bs)(h1:shB ss as=ζ)(h2:shB ss bs=ζ):
 NS0 P N ⟨ς d,.binOp .eql t x y t',ty,ps,af,gd⟩ sl ob nx d (tB (wY as bs)) ⟨d,[(x,.v (.agg cs)),(y,.v (.agg ds))],[],tB (wY as bs),[]⟩:=dx (st:=⟨sl,ob,nx⟩) (n_seq ha hb h1 h2) rfl hN ⟨hx,hy,θ⟩ trivial rfl
theorem qn{ds:List C}{as bs:List D}[rZ P t ss](hx:opT sl x= .v (.agg cs))(hy:opT sl y= .v (.agg ds))(hN:nlt d N=ζ)(ha:rP cs=ς as)(hb:rP ds=ς bs)(h1:shB ss as=ζ)(h2:shB ss bs=ζ):
 NS0 P N ⟨ς d,.binOp .neq t x y t',ty,ps,af,gd⟩ sl ob nx d (tB (!wY as bs)) ⟨d,[(x,.v (.agg cs)),(y,.v (.agg ds))],[],tB (!wY as bs),[]⟩:=dx (st:=⟨sl,ob,nx⟩) (n_sne ha hb h1 h2) rfl hN ⟨hx,hy,θ⟩ trivial rfl
end
def cpL(els ys:List α):List α:=ys.take els.length++els.drop ys.length
theorem Sj{β:Type}(f:α->β)(els ys:List α):cpL (els.map f) (ys.map f)=(cpL els ys).map f:=by simp[cpL,aeb,aeg]
@[simp] theorem cpL_len (els ys:List α):(cpL els ys).length=els.length:=by simp[cpL];omega
section
variable{P:Program}{N:Nat}{d:Tmp}{ty:TypeId}{ps:String}{af:Array Edge}{gd:Option (Nat×Bool)}{x y z:Operand}{st:St}
theorem Bu{us:Lae}(hn:us.length=n)(h:∀(j:Nat) (u:Value),us[j]?=ς u->w.cell? ⟨b,k+j,ξ⟩=ς u):
 (loadCells ⟨b,k,ξ⟩ n).run P w= .ok us.toArray w:=by
 subst hn
 have:=lg (P:=P) (b:=b) (k:=k) (w:=w) us 0 #[] (λj u hj=>by simp_all)
 simpa [loadCells] using this
theorem YK{o:Nat}{ys:Lad}{c:C}[ht:dz P t e sz by_](hd:d<N)(hx:opT st.sl x= .v (.c (.w o n)))(hy:opT st.sl y= .v (.c c))(ho:go st.ob o=ς (.row e sz els g ζ))(hs:Src st.ob c ys gy)(hn:els.length=n)(hsz:∀e∈ys,e.length=sz):
 AWO P N ⟨ς d,.call ⟨.builtin .copy,#[x,y],#[t,t]⟩,ty,ps,af,gd⟩ st ⟨(d,.any)::st.sl,(o,.row e sz (cpL els ys) (g&&gy) ζ)::st.ob,st.nx⟩:=by
 intro cx E a w hR
 have h1:=hR.op x;rw[hx] at h1
 have h2:=hR.op y;rw[hy] at h2
 obtain⟨b,cc,hr,hu⟩:=h1
 obtain⟨b',c',arr,hr',hh,ha,hlc,hmx,hes,hrd,hFm,_⟩:=hR.obs o _ ho
 rw[hr] at hr';cases hr'
 have hF:=hFm rfl
 obtain⟨A,k,hv,hyk,hA⟩:=RE hR hs h2
 obtain⟨ii,zz,i1,i2,i3,i4,i5⟩:=ht.i
 obtain⟨m,hm⟩:∃m,m=Nat.min ys.length n:=⟨_,rfl⟩
 have hm1:m<=ys.length:=by rw[hm];exact Nat.min_le_left _ _
 have hm2:m<=n:=by rw[hm];exact Nat.min_le_right _ _
 have hcp:cpL els ys=ys.take m++els.drop m:=by
  unfold cpL
  rw[hn]
  rcases Nat.le_total ys.length n with h|h
  .grind
  simp_all
 have hsrc:∃news:Lae,news.length=m*sz/\(∀u∈news,u.oneCell'=ζ)/\(∀(j:Nat) (xd:D),(ys.take m).flatten[j]?=ς xd->∃u,news[j]?=ς u/\rdD w (E.H gy) xd u)/\
  (Builtin.firstCells sz m (.slice A ys.length k)).run P w= .ok news.toArray w:=by
  rcases hA with h0|⟨b2,off,rfl,hrd2⟩
  .subst h0
   have hm0:m=0:=by simpa using hm1
   refine⟨[],by simp[hm0],by simp,by simp,?_⟩
   cases A with
   |none=>rfl
   |some ad=>simp[Builtin.firstCells,hm0,loadCells,loadCellsFrom]
  obtain⟨us,q1,q2,q3,q4⟩:=wy (eN.1 (oc m hrd2))
  have ql:us.length=m*sz:=by
   rw[q1,eF (λe he=>hsz e (adk he)),ad0,ad1 hm1]
  refine⟨us,ql,q3,q4,?_⟩
  simp only[Builtin.firstCells]
  exact Bu ql (λj u hj=>by have:=q2 j u hj;rwa [vy] at this)
 obtain⟨news,n1,n2,n3,n4⟩:=hsrc
 have hmul:m*sz<=arr.size:=by rw[ha];exact Nat.mul_le_mul_right _ oaa
 have hst:=run_storeCells_at (P:=P) b 0 e news 0 arr w hh (by simp;omega) n2
 have hrun:(Builtin.copy_ #[t,t] ty #[.slice (ς ⟨b,0,ξ⟩) n cc,.slice A ys.length k]).run P w= .ok (goInt m) (w.setRow b (news++arr.toList.drop (m*sz)).toArray):=by
  simp only[aa5,n1] at hst
  simp only[Builtin.copy_]
  simp[underlying,ht.u,Builtin.lenOf,ey i1,i2]
  rw[<-hm,n4]
  simp[hst]
 unfold Oper.wp
 simp only[execOp,resolve,invoke,builtin,Sem.run_bind,Sem.run_pure,Result.andThen_ok,ad8,adU,ad3,hu,hv,hrun,Oper.upon_value]
 have hk:=mc (cs:=(news++arr.toList.drop (m*sz)).toArray) (w:=w) hR.ok hr hF
 have hall:∀e'∈cpL els ys,e'.length=sz:=λe' he'=>by
  grind
 have hrel:=ud (ob':=.row e sz (cpL els ys) (g&&gy) ζ) (cs:=(news++arr.toList.drop (m*sz)).toArray) hR hr hF ⟨b,cc,_,hr,g8 _ hh,by simp_all,by simp_all,hmx,hall,by
  rw[eN]
  refine mG λj xd hj=>?_
  rw[aa5,dX (g8 _ hh),List.getElem?_toArray]
  rw[hcp,ad2] at hj
  have hfl:(ys.take m).flatten.length=m*sz:=by rw[eF (λe he=>hsz e (adk he)),ad0,ad1 hm1]
  by_cases hjn:j<m*sz
  .rw[aa8 oaa] at hj
   obtain⟨u,u1,u2⟩:=n3 _ _ hj
   exact⟨u,by grind,bQ (hk.heap _) (hk.H _) _ _ (qX hR.ok u2 (by simp))⟩
  rw[aa3 oaa,hfl] at hj
  have hjd:els.flatten[j]?=ς xd:=by
   have e1:els.flatten=(els.take m).flatten++(els.drop m).flatten:=by rw[<-ad2,List.take_append_drop]
   have e2:(els.take m).flatten.length=m*sz:=by rw[eF (λe he=>hes e (adk he)),ad0,ad1 oaa]
   rw[e1,aa3 oaa,e2];exact hj
  obtain⟨u,u1,u2⟩:=iz (eN.1 hrd) hjd
  rw[aa5,dX hh] at u1
  refine⟨u,?_,bQ (hk.heap _) (hk.H _) _ _ (qX hR.ok u2 (by simp_all))⟩
  rw[aa3 oaa,n1,adE,show m*sz+(j-m*sz)=j from by omega]
  simp_all,λ_=>hF,(λh=>by cases h),θ⟩
 exact⟨E,hrel.putAny hd _⟩
theorem cpT{enc:α->List D}{ob:Laa}{o:Nat}{ys zs:List α}{zd:Lad}{gg:Bool}{c:C}[dz P t e sz by_](hzd:zs.map enc=zd)(henc:∀a,(enc a).length=sz)(hn:ys.length=n)(hs:Src ob c zd gy)(hd:nlt d N=ζ)(hx:opT sl x= .v (.c (.w o n)))(hy:opT sl y= .v (.c c))(ho:go ob o=ς (.row e sz (ys.map enc) g ζ))(hg:(g&&gy)=gg):
 AWO P N ⟨ς d,.call ⟨.builtin .copy,#[x,y],#[t,t]⟩,ty,ps,af,gd⟩ ⟨sl,ob,nx⟩ ⟨(d,.any)::sl,(o,.row e sz ((cpL ys zs).map enc) gg ζ)::ob,nx⟩:=by
 subst hzd;subst hg
 have:=YK (P:=P) (N:=N) (st:=⟨sl,ob,nx⟩) (d:=d) (ty:=ty) (ps:=ps) (af:=af) (gd:=gd) (t:=t) (e:=e) (sz:=sz) (by_:=by_) (bV hd) hx hy ho hs (by simp_all) (JN henc zs)
 rwa [Sj] at this
def uK:List D->Bool
 |[]=>ζ
 | .l _::_=>η
 |_::xs=>uK xs
theorem CK{w:World}{F F':Nat->Prop}:∀{e:List D} {b k:Nat},uK e=ζ->rdL w F e b k->rdL w F' e b k
 |[],_,_,_,_=>by simp[rdL]
 | .i k' n::xs,b,k,h,hr=>by
  rw[rdL] at hr ⊢
  exact⟨by obtain⟨u,h1,h2⟩:=hr.1;exact⟨u,h1,by simpa [rdD] using h2⟩,CK (by simpa [uK] using h) hr.2⟩
 | .b n::xs,b,k,h,hr=>by
  rw[rdL] at hr ⊢
  exact⟨by obtain⟨u,h1,h2⟩:=hr.1;exact⟨u,h1,by simpa [rdD] using h2⟩,CK (by simpa [uK] using h) hr.2⟩
 | .str n::xs,b,k,h,hr=>by
  rw[rdL] at hr ⊢
  exact⟨by obtain⟨u,h1,h2⟩:=hr.1;exact⟨u,h1,by simpa [rdD] using h2⟩,CK (by simpa [uK] using h) hr.2⟩
 | .k _ _ _::xs,b,k,h,hr=>by
  rw[rdL] at hr ⊢
  exact⟨by obtain⟨u,h1,h2⟩:=hr.1;exact⟨u,h1,by simpa [rdD] using h2⟩,CK (by simpa [uK] using h) hr.2⟩
 | .l _::_,_,_,h,_=>by simp[uK] at h
theorem Az{w:World}{F F':Nat->Prop}:∀{es:Lad} {b k:Nat},(∀e∈es,uK e=ζ)->rdLL w F es b k->rdLL w F' es b k
 |[],_,_,_,_=>by simp[rdLL]
 |e::es,b,k,h,hr=>by
  rw[rdLL] at hr ⊢
  exact⟨CK (h e (by simp)) hr.1,Az (λx hx=>h x (by simp[hx])) hr.2⟩
theorem wM{enc:α->List D}{ob:Laa}{o t:Nat}{ys:List α}(ho:go ob o=ς (.row t sz (ys.map enc) g ζ):=by exact rfl)(hf:∀a,uK (enc a)=true:=by exact λ_=>rfl):
 cO N ⟨sl,ob,nx⟩ ⟨sl,(o,.row t sz (ys.map enc) ζ ζ)::ob,nx⟩:=by
 intro cx E a w hR
 refine⟨E,hR.ok,hR.dom,λl x hl=>?_,hR.sl,hR.dfr,hR.size,hR.td⟩
 by_cases hlo:o=l
 .subst hlo
  rw[bX] at hl;cases hl
  obtain⟨b,c,arr,h1,h2,h3,h4,h5,h6,h7,h8,h9⟩:=hR.obs _ _ ho
  exact⟨b,c,arr,h1,h2,h3,h4,h5,h6,Az (λe he=>by grind) h7,h8,(λh=>by cases h),θ⟩
 rw[bg _ _ hlo] at hl;exact hR.obs l x hl
end
def W2(k:IntKind)(x y:Int):Int:=k.wrap (BitVec.ofInt k.bits x&&& BitVec.ofInt k.bits y).toNat
def bOr(k:IntKind)(x y:Int):Int:=k.wrap (BitVec.ofInt k.bits x|||BitVec.ofInt k.bits y).toNat
def bXor(k:IntKind)(x y:Int):Int:=k.wrap (BitVec.ofInt k.bits x^^^BitVec.ofInt k.bits y).toNat
def Sb(k:IntKind)(x y:Int):Int:=k.wrap (BitVec.ofInt k.bits x&&& ~~~(BitVec.ofInt k.bits y)).toNat
def Nx(k:IntKind)(x y:Int):Int:=k.wrap (x*2^(min y.toNat k.bits))
def bShr(k:IntKind)(x y:Int):Int:=x.fdiv (2^(min y.toNat k.bits))
def W3(op:BinOp)(k:IntKind)(a b:Int):Option Int:=
 match op with
 | .and=>ς (W2 k a b)
 | .or=>ς (bOr k a b)
 | .xor=>ς (bXor k a b)
 | .andNot=>ς (Sb k a b)
 |_=>ξ
def ZO(op:BinOp)(k:IntKind)(a b:Int):Option Int:=
 match op with
 | .shl=>ς (Nx k a b)
 | .shr=>ς (bShr k a b)
 |_=>ξ
section
variable{P:Program}{N:Nat}{d:Tmp}{ty:TypeId}{ps:String}{af:Array Edge}{gd:Option (Nat×Bool)}{x y z:Operand}{sl:Lab}{ob:Laa}{nx:Nat}
theorem n_bit{op:BinOp}{k:IntKind}{a b:Int}(h:W3 op k a b=ς r):
 AWN P ⟨ς d,.binOp op t x y t',ty,ps,af,gd⟩ [(x,.v (.c (.d g (.i k a)))),(y,.v (.c (.d g' (.i k b))))] [] (.v (.c (.d η (.i k r)))) []:=
 cA λE ac w hn _=>by
  have h1:=ic (hn x _ (.head _))
  have h2:=ic (hn y _ (.tail _ (.head _)))
  cases op<;>simp only[W3,Option.some.injEq,reduceCtorEq] at h<;>subst h<;>
   exact⟨_,by simp[execOp,h1,h2,eqGuard,binOp,Op.intBits];rfl,by simp[cvT,cvV,cvC,gD,rdD,W2,bOr,bXor,Sb]⟩
theorem n_sh{op:BinOp}{k k':IntKind}{a b:Int}(h0:0<=b)(h:ZO op k a b=ς r):
 AWN P ⟨ς d,.binOp op t x y t',ty,ps,af,gd⟩ [(x,.v (.c (.d g (.i k a)))),(y,.v (.c (.d g' (.i k' b))))] [] (.v (.c (.d η (.i k r)))) []:=
 cA λE ac w hn _=>by
  have h1:=ic (hn x _ (.head _))
  have h2:=ic (hn y _ (.tail _ (.head _)))
  have h0':¬b<0:=by omega
  cases op<;>simp only[ZO,Option.some.injEq,reduceCtorEq] at h<;>subst h<;>
   exact⟨_,by simp[execOp,h1,h2,eqGuard,binOp,Op.shift,h0'];rfl,by rfl⟩
theorem ib{op:BinOp}{k:IntKind}{a b:Int}(hx:opT sl x= .v (.c (.d g (.i k a))))(hy:opT sl y= .v (.c (.d g' (.i k b))))(hN:nlt d N=ζ)(h:W3 op k a b=ς r):
 NS0 P N ⟨ς d,.binOp op t x y t',ty,ps,af,gd⟩ sl ob nx d (.v (.c (.d η (.i k r)))) ⟨d,[(x,.v (.c (.d g (.i k a)))),(y,.v (.c (.d g' (.i k b))))],[],.v (.c (.d η (.i k r))),[]⟩:=dx (st:=⟨sl,ob,nx⟩) (n_bit h) rfl hN ⟨hx,hy,θ⟩ trivial rfl
theorem ishT{op:BinOp}{k k':IntKind}{a b:Int}(h0:leB 0 b=ζ)(hx:opT sl x= .v (.c (.d g (.i k a))))(hy:opT sl y= .v (.c (.d g' (.i k' b))))(hN:nlt d N=ζ)(h:ZO op k a b=ς r):
 NS0 P N ⟨ς d,.binOp op t x y t',ty,ps,af,gd⟩ sl ob nx d (.v (.c (.d η (.i k r)))) ⟨d,[(x,.v (.c (.d g (.i k a)))),(y,.v (.c (.d g' (.i k' b))))],[],.v (.c (.d η (.i k r))),[]⟩:=dx (st:=⟨sl,ob,nx⟩) (n_sh (by simp_all) h) rfl hN ⟨hx,hy,θ⟩ trivial rfl
theorem ishL{op:BinOp}{k k':IntKind}{a:Int}(hx:opT sl x= .v (.c (.d g (.i k a))))(hy:opT sl y= .v (.c (.d g' (.i k' (b:Int)))))(hN:nlt d N=ζ)(h:ZO op k a b=ς r):
 NS0 P N ⟨ς d,.binOp op t x y t',ty,ps,af,gd⟩ sl ob nx d (.v (.c (.d η (.i k r)))) ⟨d,[(x,.v (.c (.d g (.i k a)))),(y,.v (.c (.d g' (.i k' (b:Int)))))],[],.v (.c (.d η (.i k r))),[]⟩:=dx (st:=⟨sl,ob,nx⟩) (n_sh oaa h) rfl hN ⟨hx,hy,θ⟩ trivial rfl
end
def E0(b c:Nat)(F:Nat->Prop):Env:={r:=λo=>if o=200 then ς (b,c) else ξ,F:=F,G:=λ_=>False}
def E1(b c:Nat)(F G:Nat->Prop):Env:={r:=λo=>if o=200 then ς (b,c) else ξ,F:=λx=>F x\/G x,G:=G}
def TV(E:Env)(w:World):List T->Lae->Prop
 |[],[]=>True
 |t::ts,u::us=>cvT E w t u/\TV E w ts us
 |_,_=>False
structure FnW(P:Program)(f:FuncId)(x:Ob)(args:List T)(y:Ob)(res:List RV):Prop where
 enters:∀(vs:Array Value) (w:World),(callFunc f vs).run P w= .ok (.enter f vs) w
 calls:∀(F:Nat->Prop) (w:World) (vals:Array Value) (b c:Nat),(∀b,F b->b<w.heap.size)->b<w.heap.size->TabsIn w->(∀k∈qD,k≠b)->cN (E0 b c F) w 200 x->TV (E0 b c F) w args vals.toList->
  Calls P f vals w λe w'=>∃v G bs,e= .returned v/\GR w w' (λk=>k=b)/\(∀k,G k->w.heap.size<=k/\k<w'.heap.size/\fR w' k)/\II w' G w.heap.size res v bs/\(bs.map (·.1)).Nodup/\cN (E1 b c F G) w' 200 y
def C.free:C->Bool
 | .d (.b _) _| .nil| .any| .fn _=>ζ
 |_=>η
def Ob.free:Ob->Bool
 | .var _ cs=>cs.all C.free
 | .row _ _ _ (.b _) m=>m
 | .row .. | .rown .. | .abs .. =>η
theorem yV{ty:Nat}{g:Gr}{m:Bool}(h:(Ob.row ty sz els g m).free=ζ):∃g',g=Gr.b g'/\m=true:=by
 cases g with
 |b g=>exact⟨g,rfl,h⟩
 |s n=>exact absurd h adS
 |t n=>exact absurd h adS
theorem W7(hH:∀(g:Bool) b,E.H g b->E'.H g b)(hh:∀(g:Bool) b,E.H g b->w'.heap[b]?=w.heap[b]?):∀{c:C} {u:Value},c.free=ζ->cvC E w c u->cvC E' w' c u
 | .d (.b g) d,u,_,h=>bQ (hh g) (hH g) d u h
 | .fn f,u,_,h=>h
 | .nil,u,_,h=>h
 | .any,u,_,_=>trivial
theorem RX{E E':Env}{w w':World}(hH:∀(g:Bool) b,E.H g b->E'.H g b)(hh:∀(g:Bool) b,E.H g b->w'.heap[b]?=w.heap[b]?):∀{cs:List C} {us:Lae},cs.all C.free=ζ->CV E w cs us->CV E' w' cs us
 |[],[],_,_=>trivial
 |c::cs,u::us,hf,h=>by
  simp only[adm,f4] at hf
  exact⟨W7 hH hh hf.1 h.1,RX hH hh hf.2 h.2⟩
 |[],_::_,_,h=>h.elim
 |_::_,[],_,h=>h.elim
theorem IH{o o':Nat}(hf:x.free=ζ)(hr:∀b c,E.r o=ς (b,c)->E'.r o'=ς (b,c))(hH:∀(g:Bool) b,E.H g b->E'.H g b)(hh:∀(g:Bool) b,E.H g b->w'.heap[b]?=w.heap[b]?)(hb:∀b c,E.r o=ς (b,c)->w'.heap[b]?=w.heap[b]?)(hF:∀b c,E.r o=ς (b,c)->¬E.F b->¬E'.F b)(h:cN E w o x):cN E' w' o' x:=by
 cases x with
 |rown ty sz els g=>exact absurd hf adS
 |abs l y=>exact absurd hf adS
 |var ty cs=>
  obtain⟨b,c,arr,h1,h2,h3,h4⟩:=h
  exact⟨b,c,arr,hr b c h1,(hb b c h1).trans h2,RX hH hh hf h3,hF b c h1 h4⟩
 |row ty sz els g m=>
  cases g with
  |s n=>exact absurd hf adS
  |t n=>exact absurd hf adS
  |b g=>
  obtain⟨b,c,arr,h1,h2,h3,h4,h5,h6,h7,h8,h9⟩:=h
  have hm:m=true:=hf
  subst hm
  exact⟨b,c,arr,hr b c h1,(hb b c h1).trans h2,h3,h4,h5,h6,bP (hh g) (hH g) (hb b c h1) _ _ h7,λ_=>hF b c h1 (h8 rfl),(λh=>by cases h),θ⟩
def C.loc:C->C
 | .d (.b _) x=>.d η x
 |c=>c
def Ob.loc:Ob->Ob
 | .var ty cs=>.var ty (cs.map C.loc)
 | .row ty sz els (.b _) m=>.row ty sz els η m
 |x=>x
theorem aa7(ok:dr cx E w){c:C}(h:cvC E w c u):cvC E w c.loc u:=by
 cases c with
 |d g x=>cases g with
  |b g=>exact qX (g':=η) ok h (by simp)
  |s n=>exact h
  |t n=>exact h
 |_=>exact h
theorem WA{cx:Cx}{E:Env}{w:World}(ok:dr cx E w):∀{cs:List C} {us:Lae},CV E w cs us->CV E w (cs.map C.loc) us
 |[],[],_=>trivial
 |c::cs,u::us,h=>⟨aa7 ok h.1,WA ok h.2⟩
 |[],_::_,h=>h.elim
 |_::_,[],h=>h.elim
theorem KZ(ok:dr cx E w){o:Nat}(hf:x.free=ζ)(h:cN E w o x):cN E w o x.loc:=by
 cases x with
 |rown ty sz els g=>exact absurd hf adS
 |abs l y=>exact absurd hf adS
 |var ty cs=>
  obtain⟨b,c,arr,h1,h2,h3,h4⟩:=h
  exact⟨b,c,arr,h1,h2,WA ok h3,h4⟩
 |row ty sz els g m=>
  cases g with
  |s n=>exact absurd hf adS
  |t n=>exact absurd hf adS
  |b g=>
  obtain⟨b,c,arr,h1,h2,h3,h4,h5,h6,h7,h8,h9⟩:=h
  have hm:m=true:=hf
  subst hm
  refine⟨b,c,arr,h1,h2,h3,h4,h5,h6,?_,h8,(λh=>by cases h),θ⟩
  cases g with
  |false=>exact h7
  |true=>exact bP (λ_ _=>rfl) (λb hb=>ok.gf b hb) rfl _ _ h7
def Cy:Nat->List T->Lab
 |_,[]=>[]
 |k,t::ts=>(k,t)::Cy (k+1) ts
theorem Ls{E:Env}{w:World}:∀{ts:List T} {us:Lae} (k0:Nat),TV E w ts us->us.length=ts.length/\∀k,(k0<=k/\k<k0+ts.length->∃u,us[k-k0]?=ς u/\cvT E w (gt (Cy k0 ts) k) u)/\(¬(k0<=k/\k<k0+ts.length)->gt (Cy k0 ts) k= .any)
 |[],[],k0,_=>⟨rfl,λk=>⟨λh=>by grind,λ_=>rfl⟩⟩
 |t::ts,u::us,k0,h=>by
  obtain⟨h1,h2⟩:=Ls (k0+1) h.2
  refine⟨by simp[h1],λk=>⟨λhk=>?_,λhk=>?_⟩⟩
  .by_cases e:k0=k
   .subst e;exact⟨u,by simp,by rw[Cy,da];exact h.1⟩
   obtain⟨v,k1,k2⟩:=(h2 k).1 (by grind)
   refine⟨v,?_,by rw[Cy,ck _ _ e];exact k2⟩
   grind
  simp at hk
  rw[Cy,ck _ _ oaa]
  grind
 |[],_::_,_,h=>h.elim
 |_::_,[],_,h=>h.elim
def yp(N:Nat)(P:Program)(rs:List ResultVar)(res:List RV)(y:Ob):Exit->St->Prop
 | .ret,s| .normal,s=>∃s',cO N s s'/\Fin P rs res s'/\go s'.ob 200=ς y
 |_,_=>False
instance {N:Nat} {P:Program} {rs:List ResultVar} {res:List RV} {y:Ob}:Clo N (yp N P rs res y):=⟨λe s m hw h=>by
 cases e<;>simp only[yp] at h ⊢<;>first|exact h|(obtain⟨s',h1,h2⟩:=h;exact⟨s',aK hw h1,h2⟩)⟩
def Bi(nob:Laa)(o:Nat):C->Option (C×Lac)
 | .p l k=>bif fW l o then ς (.p 200 k,[]) else ξ
 | .w l n=>bif fW l o then ς (.w 200 n,[]) else match yC nob (.w l n) with
  |some (x,e)=>ς (.d η x,e)
  |none=>ξ
 | .nil=>ς (.nil,[])
 |c=>match yC nob c with
  |some (x,e)=>ς (.d η x,e)
  |none=>ξ
def Oq(nob:Laa)(o:Nat):List C->Option (List C×Lac)
 |[]=>ς ([],[])
 |c::cs=>match Bi nob o c,Oq nob o cs with
  |some (x,e),ς (xs,e')=>ς (x::xs,e++e')
  |_,_=>ξ
def locT(nob:Laa)(o:Nat):T->Option (T×Lac)
 | .v (.c c)=>match Bi nob o c with
  |some (x,e)=>ς (.v (.c x),e)
  |none=>ξ
 | .v (.agg cs)=>match Oq nob o cs with
  |some (x,e)=>ς (.v (.agg x),e)
  |none=>ξ
 |_=>ξ
def Bv(nob:Laa)(o:Nat):List T->Option (List T×Lac)
 |[]=>ς ([],[])
 |c::cs=>match locT nob o c,Bv nob o cs with
  |some (x,e),ς (xs,e')=>ς (x::xs,e++e')
  |_,_=>ξ
section
variable{cx:Cx}{E:Env}{w:World}{nob:Laa}{o b c0:Nat}(ok:dr cx E w)(hob:∀l x,go nob l=ς x->cN E w l x)(hr:E.r o=ς (b,c0))
include ok hob hr
theorem SY{c:C}{x:C}{e:Lac}(h:Bi nob o c=ς (x,e))(he:Eqs e)(hc:cvC E w c u):cvC (E0 b c0 (mJ E nob)) w x u:=by
 have gen:∀{c x e},(match yC nob c with|some (x,e)=>ς (C.d η x,e)|none=>ξ)=ς (x,e)->Eqs e->cvC E w c u->cvC (E0 b c0 (mJ E nob)) w x u:=by
  intro c x e h he hc
  split at h
  .rename_i y e' h1
   simp at h;obtain⟨rfl,rfl⟩:=h
   exact Gi ok hob h1 he hc
  cases h
 cases c with
 |p l k=>
  simp only[Bi] at h
  cases hb:fW l o with
  |false=>simp_all
  |true=>
   rw[hb] at h;simp at h;obtain⟨rfl,rfl⟩:=h
   have:=aat hb;subst this
   obtain⟨b',c',h1,h2⟩:=hc
   rw[hr] at h1;cases h1
   exact⟨b,c0,by simp[E0],h2⟩
 |w l n=>
  simp only[Bi] at h
  cases hb:fW l o with
  |false=>grind
  |true=>
   rw[hb] at h;simp at h;obtain⟨rfl,rfl⟩:=h
   have:=aat hb;subst this
   obtain⟨b',c',h1,h2⟩:=hc
   rw[hr] at h1;cases h1
   exact⟨b,c0,by simp[E0],h2⟩
 |nil=>simp[Bi] at h;obtain⟨rfl,rfl⟩:=h;exact hc
 |d g y=>exact gen (by simpa only[Bi] using h) he hc
 |s o sz off len=>exact gen (by simpa only[Bi] using h) he hc
 |e o sz i j=>exact gen (by simpa only[Bi] using h) he hc
 |q g x j=>exact gen (by simpa only[Bi] using h) he hc
 |fn f=>exact gen (by simpa only[Bi] using h) he hc
 |any=>exact gen (by simpa only[Bi] using h) he hc
 |r l x=>exact gen (by simpa only[Bi] using h) he hc
 |z x=>exact gen (by simpa only[Bi] using h) he hc
 |zq x j=>exact gen (by simpa only[Bi] using h) he hc
 |wn l n=>exact gen (by simpa only[Bi] using h) he hc
theorem Ot:∀{cs xs:List C} {e:Lac} {us:Lae},Oq nob o cs=ς (xs,e)->Eqs e->CV E w cs us->CV (E0 b c0 (mJ E nob)) w xs us
 |[],xs,e,us,h,he,hc=>by simp[Oq] at h;obtain⟨rfl,rfl⟩:=h;cases us with
  |nil=>trivial
  |cons _ _=>exact hc.elim
 |c::cs,xs,e,us,h,he,hc=>by
  simp only[Oq] at h
  split at h
  .rename_i x e1 xs' e2 h1 h2
   simp at h;obtain⟨rfl,rfl⟩:=h
   obtain⟨g1,g2⟩:=dE he
   cases us with
   |nil=>exact hc.elim
   |cons u us=>exact⟨SY ok hob hr h1 g1 hc.1,Ot h2 g2 hc.2⟩
  cases h
theorem abO{t t':T}{e:Lac}(h:locT nob o t=ς (t',e))(he:Eqs e)(hc:cvT E w t u):cvT (E0 b c0 (mJ E nob)) w t' u:=by
 unfold locT at h
 split at h
 .split at h
  .rename_i c x e' h1;simp at h;obtain⟨rfl,rfl⟩:=h;exact SY ok hob hr h1 he hc
  cases h
 .split at h
  .rename_i cs x e' h1;simp at h;obtain⟨rfl,rfl⟩:=h
   obtain⟨arr,hu,hc⟩:=hc
   exact⟨arr,hu,Ot ok hob hr h1 he hc⟩
  cases h
 cases h
theorem H8{a:Act}:∀{ts ts':List T} {e:Lac} {args:List Operand},Bv nob o ts=ς (ts',e)->Eqs e->ts.length=args.length->(∀x t,(x,t)∈args.zip ts->cvT E w t (a.eval x))->TV (E0 b c0 (mJ E nob)) w ts' (args.map a.eval)
 |[],ts',e,args,h,he,hl,hn=>by
  simp[Bv] at h;obtain⟨rfl,rfl⟩:=h
  cases args with
  |nil=>trivial
  |cons _ _=>simp at hl
 |t::ts,ts',e,args,h,he,hl,hn=>by
  simp only[Bv] at h
  split at h
  .rename_i x e1 xs' e2 h1 h2
   simp at h;obtain⟨rfl,rfl⟩:=h
   obtain⟨g1,g2⟩:=dE he
   cases args with
   |nil=>simp at hl
   |cons y args=>exact⟨abO ok hob hr h1 g1 (hn y t (by simp)),H8 h2 g2 (by simp_all) (λx t hm=>hn x t (by simp[hm]))⟩
  cases h
end
theorem acm{d:Tmp}{gd:Option (Nat×Bool)}{ob:Laa}{o:Nat}{x0:Ob}{eqs:Lac}{nw:Laa}(hF:FnW P f x0.loc ts' y res)(ht:pH sl args=ς ts)(ho:go ob o=ς x0)(hfx:x0.free=ζ)(hfy:y.free=ζ)(ha:Bv [] o ts=ς (ts',eqs))(he:Eqs eqs)(hi:BT nx res=ς (out,nw,n))(hw:EA nx nw n=ζ)(hN:nlt d N=ζ):
 AWO P N ⟨ς d,.call ⟨.value (.func f),args.toArray,tys⟩,ty,ps,af,gd⟩ ⟨sl,ob,nx⟩ ⟨(d,out)::sl,nw++(o,y)::ob,n⟩:=by
 intro cx E a w hR
 obtain⟨t1,t2⟩:=nC ht
 obtain⟨nob,hnob⟩:∃nob:Laa,nob=[]:=⟨_,rfl⟩
 rw[<-hnob] at ha
 have hob:∀l x,go nob l=ς x->cN E w l x:=λl x h=>by subst hnob;cases h
 have hx0:=hR.obs o x0 ho
 obtain⟨b,c0,hr,hbF⟩:∃b c0,E.r o=ς (b,c0)/\¬E.F b:=by
  cases x0 with
  |rown ty sz els g=>exact absurd hfx adS
  |abs l y=>exact absurd hfx adS
  |var t cs=>obtain⟨b,c,arr,h1,h2,h3,h4⟩:=hx0;simp_all
  |row t sz els g m=>
   obtain⟨b,c,arr,h1,h2,h3,h4,h5,h6,h7,h8,h9⟩:=hx0
   obtain⟨g,rfl,rfl⟩:=yV hfx
   simp_all
 have hnl:∀l x,go nob l=ς x->l≠o:=λl x h=>by subst hnob;cases h
 have hbC:¬mJ E nob b:=by
  rintro(h|⟨l,x,c,h1,h2⟩)
  .exact hbF h
  exact hnl l x h1 (hR.ok.inj _ _ _ _ _ h2 hr)
 have hFb:∀b,mJ E nob b->b<w.heap.size:=by
  rintro b (h|⟨l,x,c,h1,h2⟩)
  .exact hR.ok.fb b h
  exact(hR.ok.rb l b c h2).1
 have hbs0:=(hR.ok.rb o b c0 hr).1
 have hA:=H8 (a:=a) hR.ok hob hr ha he t1 (λx t hm=>by have:=hR.op x;rwa [Lk.mem t2 x t hm] at this)
 have hX:cN (E0 b c0 (mJ E nob)) w 200 x0.loc:=by
  have hl:=KZ hR.ok hfx hx0
  have hfl:x0.loc.free=true:=by
   cases x0 with
   |rown ty sz els g=>exact absurd hfx adS
   |abs l y=>exact absurd hfx adS
   |var t cs=>
    simp only[Ob.loc,Ob.free,List.all_map] at hfx ⊢
    refine aa4.2 λc hc=>?_
    have:=aa4.1 hfx c hc
    cases c<;>(try (rename_i g _;cases g))<;>simp_all [C.loc,C.free]
   |row t sz els g m=>obtain⟨g,rfl,rfl⟩:=yV hfx;rfl
  have hnoG:∀E2:Env,(∀k,E.F k->E2.F k)->E2.r 200=ς (b,c0)->¬E2.F b->cN E2 w 200 x0.loc:=by
   intro E2 h1 h2 h3
   cases x0 with
   |rown ty sz els g=>exact absurd hfx adS
   |abs l y=>exact absurd hfx adS
   |var t cs=>
    obtain⟨b',c',arr,k1,k2,k3,k4⟩:=hl
    rw[hr] at k1;cases k1
    refine⟨b,c0,arr,h2,k2,?_,h3⟩
    have key:∀(cs:List C) (us:Lae),cs.all C.free=ζ->CV E w (cs.map C.loc) us->CV E2 w (cs.map C.loc) us:=by
     intro cs
     induction cs with
     |nil=>
      intro us _ h
      cases us with
      |nil=>trivial
      |cons _ _=>exact h.elim
     |cons c cs ih=>
      intro us hf h
      simp only[adm,f4] at hf
      cases us with
      |nil=>exact h.elim
      |cons u us=>
       refine⟨?_,ih us hf.2 h.2⟩
       have h5:=h.1
       cases c with
       |d g y=>cases g with
        |b g=>exact bQ (λ_ _=>rfl) h1 _ _ h5
        |s n=>simp[C.free] at hf
        |t n=>simp[C.free] at hf
       |nil=>exact h5
       |fn f=>exact h5
       |any=>trivial
       |_=>simp[C.free] at hf
    exact key cs _ hfx k3
   |row t sz els g m=>
    obtain⟨g,rfl,rfl⟩:=yV hfx
    obtain⟨b',c',arr,k1,k2,k3,k4,k5,k6,k7,k8,k9⟩:=hl
    rw[hr] at k1;cases k1
    exact⟨b,c0,arr,h2,k2,k3,k4,k5,k6,bP (λ_ _=>rfl) h1 rfl _ _ k7,λ_=>h3,(λh=>by cases h),θ⟩
  exact hnoG _ (λk hk=>.inl hk) (by simp[E0]) hbC
 have hc:=hF.calls (mJ E nob) w (args.map a.eval).toArray b c0 hFb hbs0 hR.ok.tabs (hR.ok.ntab hr) hX oaa
 have hent:=hF.enters (args.map a.eval).toArray w
 unfold Oper.wp
 have hrun:(execOp a.eval ⟨ς d,.call ⟨.value (.func f),args.toArray,tys⟩,ty,ps,af,gd⟩).run P w= .ok (.enter f (args.map a.eval).toArray) w:=by
  simp only[execOp,resolve,Act.eval,Deferred.ofValue,Sem.run_bind,Sem.run_pure,Result.andThen_ok,invoke]
  simpa using hent
 rw[hrun,Oper.upon_enter]
 refine hc.mono ?_
 rintro e w' ⟨v,G,bs,rfl,hpast,hG2,hres,hnd,hY⟩
 have hdom:∀l p,E.r l=ς p->l<nx:=hR.dom
 have hbs:=AZ hres
 have hnw:=Nw.mem (Dk hw)
 have hlab:∀l,nx<=l->l<nx+bs.length->E.r l=ξ/\rsv l=false:=by
  have himp:=AF (E:=⟨λo=>bs[o-nx]?,G,G,λ_ _=>False,λ_=>False,λ_=>False⟩) (λ_ h=>h) (λb _ h=>h) hi hres (λi p hi=>by simp_all)
  intro l h1 h2
  obtain⟨x,hx⟩:=himp.2.2.2 l h1 (by rw[himp.2.1];exact h2)
  have h3:=hnw.2 l x hx
  refine⟨?_,h3.2.2⟩
  cases hq:E.r l with
  |none=>rfl
  |some p=>grind
 let E':Env:=⟨λl=>if nx<=l/\l<nx+bs.length then bs[l-nx]? else E.r l,λk=>E.F k\/G k,λk=>E.G k\/G k,E.T,E.Z,E.n⟩
 have hsz:=hpast.size
 have hws:=hR.ok.size
 have hold:∀l p,E.r l=ς p->E'.r l=ς p:=λl p h=>by
  grind
 have hnew:∀l b c,E'.r l=ς (b,c)->(nx<=l/\l<nx+bs.length/\bs[l-nx]?=ς (b,c))\/(E.r l=ς (b,c)):=by
  intro l b c h
  have h:(if nx<=l/\l<nx+bs.length then bs[l-nx]? else E.r l)=ς (b,c):=h
  split at h
  .simp_all
  exact .inr h
 have hheap:∀k,k<w.heap.size->k≠b->w'.heap[k]?=w.heap[k]?:=λk hk hne=>hpast.block k hk hne
 have hHb:∀(g:Bool) k,E.H g k->k≠b/\k<w.heap.size:=λg k hk=>⟨λe=>by subst e;cases g;exact hbF hk;exact hbF (hR.ok.gf _ hk),hR.ok.hb hk⟩
 have hk:iG E w E' w':=⟨hold,λg k h=>by cases g<;>exact Or.inl h,λg k h=>hheap k (hHb g k h).2 (hHb g k h).1,λl k h=>⟨h,hheap k (hR.ok.sf.tb l k h).1.1 (λe=>by subst e;exact(hR.ok.sf.tb l k h).2.2.1 o c0 hr)⟩,λk h=>⟨h,.of_eq (hheap k (hR.ok.sf.zb k h).1.2.1 (λe=>by subst e;exact(hR.ok.sf.zb k h).2.2.1 o c0 hr))⟩,rfl⟩
 have ok':dr cx E' w':=by
  refine⟨λk h=>?_,λk h=>?_,λk h=>?_,λl k c h=>?_,λl l' k c c' h h'=>?_,by rw[hpast.os];exact hR.ok.os,by rw[hpast.tape];exact hR.ok.tape,by rw[hpast.output];exact hR.ok.output,by omega,λk h hW=>?_,λl p hv h=>?_,λk h=>?_,
   λk h h'=>h.elim (λh=>(hR.ok.gc k h h').of_eq (hheap k (hHb η k h).2 (hHb η k h).1)) (λh=>(hG2 k h).2.2),
   hR.ok.sf.turn hr rfl rfl (λk h=>h.elim .inl (λh=>.inr (hG2 k h).1)) (λl k c h=>by
    grind) hsz hheap⟩
  .rcases h with h|h
   .have:=hR.ok.fb k h;omega
   simp_all
  .rcases h with h|h
   .exact .inl (hR.ok.gf k h)
   grind
  .rcases h with h|h
   .exact hR.ok.gn k h
   grind
  .rcases hnew l k c h with⟨_,_,h⟩|h
   .have:=AZ hres _ (v0 h);exact⟨by omega,.inl (.inl oaa)⟩
   have:=hR.ok.rb l k c h;exact⟨by omega,this.2⟩
  .rcases hnew l k c h with⟨h1,h2,h3⟩|h3<;>rcases hnew l' k c' h' with⟨k1,k2,k3⟩|k3
   .have hi:l-nx<bs.length:=by omega
    have hj:l'-nx<bs.length:=by omega
    rcases aei (l-nx) (l'-nx) with hlt|heq|hlt
    .exfalso
     have:=adl.1 hnd (l-nx) (l'-nx) (by simp_all) (by simp_all) hlt
     simp_all
    .omega
    exfalso
    have:=adl.1 hnd (l'-nx) (l-nx) (by simp_all) (by simp_all) hlt
    simp_all
   .have h5:=hbs _ (v0 h3);have h6:=hR.ok.rb l' k c' k3;omega
   .have h5:=hbs _ (v0 k3);have h6:=hR.ok.rb l k c h3;omega
   exact hR.ok.inj l l' k c c' h3 k3
  .have hkb:k≠b:=λe=>by
    subst e
    rcases hR.ok.rw hr with h'|h'
    .omega
    simp_all
   rw[hheap k oaa hkb];exact hR.ok.block k h hW
  .rcases hnew l p.1 p.2 h with⟨h1,h2,_⟩|h
   .rw[xT (hlab l h1 h2).2] at hv;cases hv
   exact hR.ok.pin l p hv h
  rcases h with h|h
  .exact hR.ok.ff k h
  grind
 have himp:=AF (E:=E') (G:=G) (base:=w.heap.size) (λb h=>.inr h) (λb hb hng hF=>by
  rcases hF with h|h
  .have:=hR.ok.fb b h;omega
  simp_all) hi hres (λi p hi=>by
   have:i<bs.length:=(f5.1 hi).1
   show(if nx<=nx+i/\nx+i<nx+bs.length then bs[nx+i-nx]? else E.r (nx+i))=ς p
   simp_all)
 refine⟨E',ok',λl p h=>?_,λl x hl=>?_,λk=>?_,hR.dfr,by simpa [Act.put] using hR.size,λl k h=>aci (hR.td l k h) hnw.1⟩
 .rcases hnew l p.1 p.2 h with⟨h1,h2,_⟩|h
  .obtain⟨x,hx⟩:=himp.2.2.2 l h1 (by rw[himp.2.1];exact h2);grind
  grind
 .rcases Ei hl with h|h
  .exact(himp.2.2.1 l x h).1
  by_cases hlo:o=l
  .subst hlo
   rw[bX] at h;cases h
   refine IH hfy (λk c h=>?_) (λg k h=>?_) (λ_ _ _=>rfl) (λ_ _ _=>rfl) (λk c h hn hh=>?_) hY
   .simp[E1] at h;grind
   .cases g with
    |false=>
     rcases h with h|h
     .rcases h with h|⟨l,x,c,h1,h2⟩
      .exact .inl h
      subst hnob;cases h1
     exact .inr h
    |true=>exact .inr h
   simp[E1] at h;grind
  rw[bg _ _ hlo] at h
  exact fG hk (λk c h'=>hheap k (hR.ok.rb _ _ _ h').1 (λe=>hlo (by subst e;exact hR.ok.inj _ _ _ _ _ hr h'))) (λk c h' hn hh=>by
   rcases hh with hh|hh
   .exact hn hh
   have:=hG2 k hh;have:=(hR.ok.rb _ _ _ h').1;omega) (hR.obs l x h)
 rw[ef (by rw[hR.size];exact bV hN)]
 by_cases hdk:d=k
 .subst hdk;rw[da,if_pos rfl];exact himp.1
 rw[ck _ _ hdk,if_neg hdk];exact jx hk (hR.sl k)
theorem cw{d:Tmp}{gd:Option (Nat×Bool)}{ob:Laa}{o:Nat}{x0 x1:Ob}{eqs:Lac}{nw:Laa}(hF:FnW P f x1 ts' y res)(ht:pH sl args=ς ts:=by exact rfl)(ho:go ob o=ς x0:=by exact rfl)(hl:x0.loc=x1:=by exact rfl)(hfx:x0.free=true:=by exact rfl)(hfy:y.free=true:=by exact rfl)(ha:Bv [] o ts=ς (ts',eqs):=by exact rfl)(he:Eqs eqs:=by repeat (first|exact θ|refine⟨by first|rfl|exact lm _|simp,?_⟩))(hi:BT nx res=ς (out,nw,n):=by exact rfl)(hw:EA nx nw n=true:=by exact rfl)(hN:nlt d N=true:=by exact rfl)(hob:apO nw ((o,y)::ob)=ς ob':=by exact rfl):
 AWO P N ⟨ς d,.call ⟨.value (.func f),args.toArray,tys⟩,ty,ps,af,gd⟩ ⟨sl,ob,nx⟩ ⟨(d,out)::sl,ob',n⟩:=by
 subst hl
 rw[ti hob]
 exact acm hF ht ho hfx hfy ha he hi hw hN
theorem XG{res':List RV}{vs:List V}{ls:List Nat}{y':Ob}(h:jN P s rs vs:=by repeat' (first|exact .nil|apply jN.cons|exact .tmp rfl|exact .cell rfl rfl rfl|exact .cell1 rfl rfl))(he:CJ s.ob vs=ς (res',ls):=by exact rfl)(hn:kh ls=true:=by exact rfl)(hr:res'=res:=by first|rfl|simp)(hy:go s.ob 200=ς y':=by exact rfl)(hyy:y'=y:=by first|rfl|simp):yp N P rs res y .ret s:=by
 subst hr;subst hyy;exact⟨s,mu s,⟨vs,ls,h,he,hn⟩,hy⟩
theorem XE{res':List RV}{vs:List V}{ls:List Nat}{y':Ob}(h:jN P s rs vs:=by repeat' (first|exact .nil|apply jN.cons|exact .tmp rfl|exact .cell rfl rfl rfl|exact .cell1 rfl rfl))(he:CJ s.ob vs=ς (res',ls):=by exact rfl)(hn:kh ls=true:=by exact rfl)(hr:res'=res:=by first|rfl|simp)(hy:go s.ob 200=ς y':=by exact rfl)(hyy:y'=y:=by first|rfl|simp):yp N P rs res y .normal s:=by
 subst hr;subst hyy;exact⟨s,mu s,⟨vs,ls,h,he,hn⟩,hy⟩
structure FnN(P:Program)(f:FuncId)(args:List AV)(ty:TypeId)(xs:List D):Prop where
 enters:∀(vs:Array Value) (w:World),(callFunc f vs).run P w= .ok (.enter f vs) w
 calls:∀(F:Nat->Prop) (w:World) (vals:Array Value),(∀b,F b->b<w.heap.size)->TabsIn w->AR w F args vals.toList->
  Calls P f vals w λe w'=>∃(b:Nat) (arr:Array Value) (G:Nat->Prop),e= .returned (.pointer (ς ⟨b,0,ξ⟩))/\GR w w' (λ_=>False)/\(∀k,G k->w.heap.size<=k/\k<w'.heap.size/\fR w' k)/\w.heap.size<=b/\b<w'.heap.size/\¬G b/\w'.heap[b]?=ς (.cells arr ty (0,0))/\DV w' (λk=>F k\/G k) xs arr.toList
def dataC:C->Option D
 | .d (.b _) x=>ς x
 | .nil=>ς (.l [])
 |_=>ξ
def Xg:List C->Option (List D)
 |[]=>ς []
 |c::cs=>match dataC c,Xg cs with
  |some x,ς xs=>ς (x::xs)
  |_,_=>ξ
theorem RZ{w w':World}{F F':Nat->Prop}(hw:∀b,F b->w'.heap[b]?=w.heap[b]?)(hF:∀b,F b->F' b):∀{xs:List D} {us:Lae},DV w F xs us->DV w' F' xs us
 |[],[],_=>trivial
 |x::xs,u::us,h=>⟨bQ hw hF x u h.1,RZ hw hF h.2⟩
 |[],_::_,h=>h.elim
 |_::_,[],h=>h.elim
def PostN(N:Nat)(rs:List ResultVar)(ty:TypeId)(xs:List D):Exit->St->Prop
 | .ret,s| .normal,s=>∃s' k o cs,cO N s s'/\rs=[.tmp k]/\gt s'.sl k= .v (.c (.p o 0))/\go s'.ob o=ς (.var ty cs)/\Xg cs=ς xs/\rsv o=η
 |_,_=>False
instance {N:Nat} {rs:List ResultVar} {ty:TypeId} {xs:List D}:Clo N (PostN N rs ty xs):=⟨λe s m hw h=>by
 cases e<;>simp only[PostN] at h ⊢<;>first|exact h|(obtain⟨s',k,o,cs,h1,h2⟩:=h;exact⟨s',k,o,cs,aK hw h1,h2⟩)⟩
theorem acb{d:Tmp}{ty0:TypeId}{gd:Option (Nat×Bool)}{avs:List AV}{eqs:Lac}{xs:List D}(hl:ts.length=args.length)(ha:K9 [] ts=ς (avs,eqs))(hF:FnN P f avs ty xs)(he:Eqs eqs):
 AWN P ⟨ς d,.call ⟨.value (.func f),args.toArray,tys⟩,ty0,ps,af,gd⟩ (args.zip ts) [] (.v (.c (.p nx 0))) [(nx,.var ty (xs.map (ldC η)))]:=by
 intro cx E a w ok hn hb hfr
 have hA:=PO ok (nob:=[]) (λl x h=>by cases h) ha he hl hn
 have hcF:∀b,mJ E [] b->E.F b:=by
  rintro b (h|⟨l,x,c,h1,h2⟩)
  .exact h
  cases h1
 have hc:=hF.calls (mJ E []) w (args.map a.eval).toArray (λb h=>ok.fb b (hcF b h)) ok.tabs oaa
 have hent:=hF.enters (args.map a.eval).toArray w
 unfold Oper.wp
 have hrun:(execOp a.eval ⟨ς d,.call ⟨.value (.func f),args.toArray,tys⟩,ty0,ps,af,gd⟩).run P w= .ok (.enter f (args.map a.eval).toArray) w:=by
  simp only[execOp,resolve,Act.eval,Deferred.ofValue,Sem.run_bind,Sem.run_pure,Result.andThen_ok,invoke]
  simpa using hent
 rw[hrun,Oper.upon_enter]
 refine hc.mono ?_
 rintro e w' ⟨b,arr,G,rfl,hp,hG,hb1,hb2,hbG,hh,hD⟩
 obtain⟨hl0,hrv⟩:=hfr nx (.var ty (xs.map (ldC η))) (ad9.2 rfl)
 obtain⟨ok',ext⟩:=Ee (nx:=nx) (bs:=[(b,0)]) ok hp hG (by simp_all) (by simp) (λl h1 h2=>by
  grind)
 have hr:(E.after nx [(b,0)] G).r nx=ς (b,0):=by simp[Env.after]
 refine⟨.pointer (ς ⟨b,0,ξ⟩),E.after nx [(b,0)] G,rfl,ok',ext,⟨b,0,hr,rfl⟩,λl ob hm=>?_,λl x hx=>?_⟩
 .simp at hm;obtain⟨rfl,rfl⟩:=hm
  refine⟨b,0,arr,hr,hh,?_,?_⟩
  .exact WD (E:=E.after l [(b,0)] G) (F:=λk=>E.F k\/G k) rfl (RZ (λ_ _=>rfl) (λk hk=>hk.elim (λh=>.inl (hcF k h)) .inr) hD)
  rintro(h|h)
  .have:=ok.fb b h;omega
  simp_all
 simp only[Env.after] at hx
 grind
theorem cn{d:Tmp}{ty0:TypeId}{gd:Option (Nat×Bool)}{ob:Laa}{avs:List AV}{eqs:Lac}{xs:List D}(hF:FnN P f avs ty xs)(ht:pH sl args=ς ts)(ha:K9 [] ts=ς (avs,eqs))(he:Eqs eqs)(hc:ldO η xs=ς cs)(hN:nlt d N=ζ)(hq:nxt nx=ς nx'):
 NS P N ⟨ς d,.call ⟨.value (.func f),args.toArray,tys⟩,ty0,ps,af,gd⟩ ⟨sl,ob,nx⟩ ⟨(d,.v (.c (.p nx 0)))::sl,(nx,.var ty cs)::ob,nx'⟩ ⟨d,args.zip ts,[],.v (.c (.p nx 0)),[(nx,.var ty cs)]⟩:=by
 obtain⟨h1,h2⟩:=nC ht
 rw[L0 hc]
 exact dx (st:=⟨sl,ob,nx⟩) (acb h1 ha hF he) rfl hN h2 trivial (rL hq)
def EZ(R:Nat->Prop):Env:={r:=λ_=>ξ,F:=λ_=>False,G:=λ_=>False,Z:=R}
structure WG(w w':World)(R:Nat->Prop):Prop where
 os:w'.os=w.os
 tape:w'.tape=w.tape
 output:w'.output=w.output
 size:w.heap.size<=w'.heap.size
 block:∀b,b<w.heap.size->¬R b->w'.heap[b]?=w.heap[b]?
 sim:∀b,R b->vX w w' b/\fR w' b
structure FnM(P:Program)(f:FuncId)(args:List T)(n:Int):Prop where
 enters:∀(vs:Array Value) (w:World),(callFunc f vs).run P w= .ok (.enter f vs) w
 calls:∀(R:Nat->Prop) (w:World) (vals:Array Value),(∀b,R b->b<w.heap.size/\fR w b)->TabsIn w->(∀k∈qD,¬R k)->TV (EZ R) w args vals.toList->
  Calls P f vals w λe w'=>e= .returned (.int .i64 n)/\WG w w' R
theorem rr{fn:Func}{c:Code}{args:List T}{n:Int}{sl0:Lab}(hf:P.funcs[f]?=ς fn)(hb:fn.body=ς c:=by exact rfl)(hnm:(fn.name== "runtime.NumGoroutine")=false:=by kernel_rfl)(hN:fn.ntmps=N)(hrs:fn.results.toList=rs:=by exact rfl)(ha:abD args.length N=true:=by exact rfl)(hs:Cy 0 args=sl0:=by exact rfl)(h:AWC P N c ⟨sl0,[],0⟩ (vW N P rs [rI n])):FnM P f args n:=by
 subst hs
 refine⟨λvs w=>by simp_all[callFunc],λR w vals hR0 hT hTb hA=>?_⟩
 subst hrs
 refine calls_of_wp hf hb ?_
 obtain⟨h1,h2⟩:=Ls 0 hA
 have hle:args.length<=N:=adp ha
 have hsz:vals.size=args.length:=by simpa using h1
 have hR:Rel N ⟨w,R,λ_=>ξ,λ_=>True,R,⟨hT,hTb⟩,λ_=>False⟩ (EZ R) ⟨Cy 0 args,[],0⟩ {tmps:=vals++abw (fn.ntmps-vals.size) undef,defers:=[]} w:=by
  refine⟨⟨λ_ h=>h.elim,λ_ h=>h.elim,λ_ h=>h.elim,(λ_ _ _ h=>by cases h),(λ_ _ _ _ _ h=>by cases h),rfl,rfl,rfl,abk _,λ_ _ _=>rfl,(λ_ _ _ h=>by cases h),λ_ _=>.inl trivial,λ_ h=>h.elim,
   ⟨λ_ _ h=>h.elim,λ_ _ _ h=>h.elim,λb h=>⟨⟨(hR0 b h).1,(hR0 b h).1,h⟩,λh=>h.elim,(λ_ _ h=>by cases h),(hR0 b h).2⟩,λb _=>.refl _ _,λ_ h=>h⟩⟩,(λ_ _ h=>by cases h),(λ_ _ h=>by cases h),λk=>?_,rfl,by simp;omega,λ_ _ h=>h.elim⟩
  by_cases hk:k<args.length
  .obtain⟨u,h3,h4⟩:=(h2 k).1 ⟨abm _,by omega⟩
   have:(vals++abw (fn.ntmps-vals.size) undef).getD k undef=u:=by
    have h5:vals[k]?=ς u:=by simpa using h3
    have h6:(vals++abw (fn.ntmps-vals.size) undef)[k]?=ς u:=by rw[aeh oaa];exact h5
    simp[h6]
   simp_all
  simp_all[cvT,EZ,gt,Cy,trivial]
 refine wp_mono (h _ (EZ R) _ w hR) ?_
 rintro e a' w' ⟨E',s',hR',hq⟩
 have fin:∀s',Rel N ⟨w,R,λ_=>ξ,λ_=>True,R,⟨hT,hTb⟩,λ_=>False⟩ E' s' a' w'->(∃s'',cO N s' s''/\Fin P fn.results.toList [rI n] s'')->
  a'.defers=[]/\∃v,(results fn a'.tmps).run P w'= .ok v w'/\Ending.returned v= .returned (.int .i64 n)/\WG w w' R:=by
  rintro s' hR' ⟨s'',hw,hfin⟩
  obtain⟨E'',hR''⟩:=hw _ _ _ _ hR'
  obtain⟨v,bs,k1,k2,k3⟩:=XF hR'' (λb h=>h.resolve_right λh=>h.2.1) hfin
  have ok:=hR''.ok
  obtain⟨_,k2⟩:=k2
  rw[rdD] at k2
  exact⟨hR''.dfr,v,k1,by rw[k2],⟨ok.os,ok.tape,ok.output,ok.size,ok.block,λb hb=>⟨ok.sf.zs b hb,(ok.sf.zc b hb).2.2.2⟩⟩⟩
 cases e with
 |normal=>exact fin s' hR' hq
 |ret=>exact fin s' hR' hq
 |_=>exact hq.elim
section
variable{P:Program}{N:Nat}{d:Tmp}{x y:Operand}{ty:TypeId}{ps:String}{af:Array Edge}{gd:Option (Nat×Bool)}{sl:Lab}{ob:Laa}{nx:Nat}{α:Type}{enc:α->List D}
theorem ach{xs:Lad}[ht:dz P t e sz by_]:AWN P ⟨ς d,.call ⟨.builtin .len,#[x],#[t]⟩,ty,ps,af,gd⟩ [(x,.v (.c (.z (.l xs))))] [] (tI xs.length) []:=
 cA λE ac w hn _=>by
  have h:=hn x _ (.head _)
  simp only[cvT,cvV,cvC,rsD] at h
  obtain⟨A,c,hu,_⟩:=h
  exact⟨_,by simp[execOp,resolve,invoke,builtin,hu,Builtin.len_,underlying,ht.u,goInt];rfl,by rfl⟩
theorem Vg{kd:IntKind}{xs:Lad}{i:Int}{el:List D}[ht:dz P t e sz by_](h0:0<=i)(he:xs[i.toNat]?=ς el)(hs:∀e∈xs,e.length=sz):
 AWN P ⟨ς d,.indexAddr t x y,ty,ps,af,gd⟩ [(x,.v (.c (.z (.l xs)))),(y,.v (.c (.d g' (.i kd i))))] [] (.v (.c (.zq el 0))) []:=
 cA λE ac w hn _=>by
  have h:=hn x _ (.head _)
  simp only[cvT,cvV,cvC,rsD] at h
  obtain⟨A,c,hu,_,h⟩:=h
  have h2:=ic (hn y _ (.tail _ (.head _)))
  have hl:i.toNat<xs.length:=(f5.1 he).1
  rcases h with h|⟨b,off,rfl,hb,h⟩
  .simp_all
  exact⟨_,by simp[execOp,hu,h2,uV (kd:=kd) h0 (by omega:i<(xs.length:Int))];rfl,b,off+i.toNat*sz,by simp,hb,TH h hs he⟩
theorem Vd{f off ft:Nat}{e:List D}[h:TyF P t f off ft]:AWN P ⟨ς d,.fieldAddr t x f,ty,ps,af,gd⟩ [(x,.v (.c (.zq e j)))] [] (.v (.c (.zq e (j+off)))) []:=
 cA λE a w hn _=>by
  obtain⟨b,k,hu,hb,hl⟩:=hn x _ (.head _)
  exact⟨_,by simp[execOp,hu,uI];rfl,b,k,by simp_all,hb,hl⟩
theorem YA{e:List D}{xd:D}[ht:g9 P t](hc:e[j]?=ς xd):AWN P ⟨ς d,.load t x,ty,ps,af,gd⟩ [(x,.v (.c (.zq e j)))] [] (.v (.c (.z xd))) []:=
 cA λE a w hn _=>by
  obtain⟨b,k,hu,hb,hl⟩:=hn x _ (.head _)
  obtain⟨u,h1,h2⟩:=Rn hl hc
  exact⟨u,by simp_all[execOp,pV],h2⟩
theorem Pr{w:World}{F:Nat->Prop}:∀{e:List D} {b k:Nat},rsL w F e b k->∃us:Lae,us.length=e.length/\(∀(j:Nat) (u:Value),us[j]?=ς u->w.cell? ⟨b,k+j,ξ⟩=ς u)/\∀(j:Nat) (xd:D),e[j]?=ς xd->∃u,us[j]?=ς u/\rsD w F xd u
 |[],b,k,_=>⟨[],rfl,by simp,by simp⟩
 |x::e,b,k,h=>by
  rw[rsL] at h
  obtain⟨⟨u,hc,hu⟩,h⟩:=h
  obtain⟨us,h1,h2,h3⟩:=Pr h
  refine⟨u::us,by simp[h1],λj v hj=>?_,λj xd hj=>?_⟩
  .grind
  grind
theorem Nf{E:Env}{w:World}:∀{e:List D} {us:Lae},us.length=e.length->(∀(j:Nat) (xd:D),e[j]?=ς xd->∃u,us[j]?=ς u/\rsD w E.Z xd u)->CV E w (e.map C.z) us
 |[],[],_,_=>trivial
 |x::e,u::us,hl,h=>by
  obtain⟨v,h1,h2⟩:=h 0 x rfl
  simp at h1;subst h1
  exact⟨h2,Nf (by simpa using hl) λj xd hj=>by obtain⟨v,h3,h4⟩:=h (j+1) xd (by simpa using hj);exact⟨v,by simpa using h3,h4⟩⟩
 |[],_::_,hl,_=>by simp at hl
 |_::_,[],hl,_=>by simp at hl
theorem IN{w:World}{F:Nat->Prop}:∀{e:List D} {b k:Nat} (_:rsL w F e b k) (j n:Nat),rsL w F ((e.drop j).take n) b (k+j)
 |[],b,k,_,j,n=>by simp[rsL]
 |x::e,b,k,h,0,0=>by simp[rsL]
 |x::e,b,k,h,0,n+1=>by
  rw[rsL] at h
  have:=IN h.2 0 n
  simp_all[aeo,ado,adC,rsL]
 |x::e,b,k,h,j+1,n=>by
  rw[rsL] at h
  have:=IN h.2 j n
  grind
def zO:List D->Option (List C)
 |[]=>ς []
 |x::xs=>match zO xs with|some r=>ς (.z x::r)|none=>ξ
theorem zO_eq:∀{xs:List D} {cs:List C},zO xs=ς cs->cs=xs.map C.z
 |[],cs,h=>by simp[zO] at h;subst h;rfl
 |x::xs,cs,h=>by
  simp only[zO] at h
  split at h
  .rename_i r h1;simp at h;subst h;rw[zO_eq h1];rfl
  cases h
def zPO(j n:Nat)(e:List D):Option (List C):=match Dl j n e with|some r=>zO r|none=>ξ
theorem Mi{e:List D}[ht:en P t n](hj:zPO j n e=ς cs):
 AWN P ⟨ς d,.load t x,ty,ps,af,gd⟩ [(x,.v (.c (.zq e j)))] [] (.v (.agg cs)) []:=
 cA λE a w hn _=>by
  simp only[zPO] at hj
  split at hj
  .rename_i r h1
   obtain⟨rfl,hle⟩:=Dm h1
   rw[zO_eq hj]
   obtain⟨b,k,hu,hb,hl⟩:=hn x _ (.head _)
   obtain⟨us,k1,k2,k3⟩:=Pr (IN hl j n)
   have hlen:us.length=n:=by rw[k1];simp;omega
   exact⟨.agg us.toArray,by simp[execOp,hu,tR hlen k2],us.toArray,rfl,by grind[Nf]⟩
  cases hj
theorem lz{xs:List α}[dz P t e sz by_](hx:opT sl x= .v (.c (.z (.l (xs.map enc)))))(hN:nlt d N=ζ):
 NS0 P N ⟨ς d,.call ⟨.builtin .len,#[x],#[t]⟩,ty,ps,af,gd⟩ sl ob nx d (tI xs.length) ⟨d,[(x,.v (.c (.z (.l (xs.map enc)))))],[],tI xs.length,[]⟩:=by
 have:=dx (st:=⟨sl,ob,nx⟩) (ach (P:=P) (d:=d) (ty:=ty) (ps:=ps) (af:=af) (gd:=gd) (t:=t) (xs:=xs.map enc) (x:=x)) rfl hN ⟨hx,θ⟩ trivial rfl
 simp_all
theorem xzT{kd:IntKind}{xs:List α}{i:Int}{a:α}[dz P t e sz by_](H:ix xs i=ς a)(henc:∀a,(enc a).length=sz)(hx:opT sl x= .v (.c (.z (.l (xs.map enc)))))(hy:opT sl y= .v (.c (.d g' (.i kd i))))(hN:nlt d N=ζ):
 NS0 P N ⟨ς d,.indexAddr t x y,ty,ps,af,gd⟩ sl ob nx d (.v (.c (.zq (enc a) 0))) ⟨d,[(x,.v (.c (.z (.l (xs.map enc))))),(y,.v (.c (.d g' (.i kd i))))],[],.v (.c (.zq (enc a) 0)),[]⟩:=
 dx (st:=⟨sl,ob,nx⟩) (Vg (ixE H).1 (fK enc H) (JN henc xs)) rfl hN ⟨hx,hy,θ⟩ trivial rfl
theorem fz{f off ft:Nat}{e:List D}{j':Nat}[TyF P t f off ft](hx:opT sl x= .v (.c (.zq e j)))(hN:nlt d N=ζ)(hk:j+off=j'):NS0 P N ⟨ς d,.fieldAddr t x f,ty,ps,af,gd⟩ sl ob nx d (.v (.c (.zq e j'))) ⟨d,[(x,.v (.c (.zq e j)))],[],.v (.c (.zq e j')),[]⟩:=by
 subst hk;exact dx (st:=⟨sl,ob,nx⟩) Vd rfl hN ⟨hx,θ⟩ trivial rfl
theorem oz{e:List D}{xd:D}[g9 P t](hx:opT sl x= .v (.c (.zq e j)))(hN:nlt d N=ζ)(hc:e[j]?=ς xd):
 NS0 P N ⟨ς d,.load t x,ty,ps,af,gd⟩ sl ob nx d (.v (.c (.z xd))) ⟨d,[(x,.v (.c (.zq e j)))],[],.v (.c (.z xd)),[]⟩:=dx (st:=⟨sl,ob,nx⟩) (YA hc) rfl hN ⟨hx,θ⟩ trivial rfl
theorem oza{e:List D}[en P t n](hx:opT sl x= .v (.c (.zq e j)))(hN:nlt d N=ζ)(hc:zPO j n e=ς cs):
 NS0 P N ⟨ς d,.load t x,ty,ps,af,gd⟩ sl ob nx d (.v (.agg cs)) ⟨d,[(x,.v (.c (.zq e j)))],[],.v (.agg cs),[]⟩:=dx (st:=⟨sl,ob,nx⟩) (Mi hc) rfl hN ⟨hx,θ⟩ trivial rfl
def Bs:D->C->Bool
 | .i k _,.d _ (.i k' _)=>k==k'
 | .b _,.d _ (.b _)=>ζ
 | .str _,.d _ (.str _)=>ζ
 |_,_=>η
theorem Ph(hR:Rel N cx E st a w)(hp:WG w w' E.Z):Rel N cx E st a w':=by
 have hz:∀b,E.Z b->¬E.F b:=λb h=>(hR.ok.sf.zb b h).2.1
 have hHn:∀(g:Bool) b,E.H g b->¬E.Z b:=λg b h hb=>by cases g;exact hz b hb h;exact hz b hb (hR.ok.gf b h)
 have hrn:∀o b c,E.r o=ς (b,c)->¬E.Z b:=λo b c h hb=>(hR.ok.sf.zb b hb).2.2.1 o c h
 have htn:∀l b,E.T l b->¬E.Z b:=λl b h hb=>hR.ok.sf.tz h (hR.ok.sf.ze b hb)
 have hk:iG E w E w':=⟨λ_ _ h=>h,λ_ _ h=>h,λg b h=>hp.block b (hR.ok.hb h) (hHn g b h),λl b h=>⟨h,hp.block b (hR.ok.sf.tb l b h).1.1 (htn l b h)⟩,λb h=>⟨h,(hp.sim b h).1⟩,rfl⟩
 have hsz:=hp.size
 refine⟨⟨λb h=>by have:=hR.ok.fb b h;omega,hR.ok.gf,hR.ok.gn,λo b c h=>⟨by have:=(hR.ok.rb o b c h).1;omega,(hR.ok.rb o b c h).2⟩,hR.ok.inj,hp.os.trans hR.ok.os,hp.tape.trans hR.ok.tape,hp.output.trans hR.ok.output,by have:=hR.ok.size;omega,λb h hW=>?_,hR.ok.pin,hR.ok.ff,λb h h'=>(hR.ok.gc b h h').of_eq (hp.block b (hR.ok.fb b h) (hHn η b h)),?_⟩,hR.dom,λo x h=>?_,λk=>jx hk (hR.sl k),hR.dfr,hR.size,hR.td⟩
 .rw[hp.block b (by have:=hR.ok.size;omega) (λhz=>hW (hR.ok.sf.zb b hz).1.2.2)];exact hR.ok.block b h hW
 .refine⟨λl b h=>?_,hR.ok.sf.tt,λb h=>?_,λb h=>?_,hR.ok.sf.ze⟩
  .obtain⟨h1,h2,h3,h4⟩:=hR.ok.sf.tb l b h
   exact⟨⟨by omega,h1.2⟩,h2,h3,h4.of_eq (hp.block b h1.1 (htn l b h))⟩
  .obtain⟨h1,h2,h3,h4⟩:=hR.ok.sf.zc b h
   refine⟨⟨h1.1,by omega,h1.2.2⟩,h2,h3,?_⟩
   by_cases hb:E.Z b
   .exact(hp.sim b hb).2
   exact h4.of_eq (hp.block b h1.2.1 hb)
  refine(hR.ok.sf.zs b h).trans ?_
  by_cases hb:E.Z b
  .exact(hp.sim b hb).1
  exact .of_eq (hp.block b (hR.ok.sf.zc b h).1.2.1 hb)
 exact fG hk (λb c h'=>hp.block b (hR.ok.rb o b c h').1 (hrn o b c h')) (λ_ _ _ h=>h) (hR.obs o x h)
theorem D6{arr:Array Value}{ty':TypeId}{fz:Nat×Nat}(h:w.heap[b]?=ς (.cells arr ty' fz)):w.cell? ⟨b,k,ξ⟩=arr[k]?:=by
 simp[World.cell?,h]
theorem MW{vt:TypeId}{arr:Array Value}{fz:Nat×Nat}[ht:TyN P t 1](hu:u.cells= #[u])(h1:u.oneCell'=ζ)(hh:w.heap[b]?=ς (.cells arr vt fz))(hf:fz=(0,0)\/arr.size<=fz.1)(hk:k<arr.size):
 (Instr.storeAt t (.pointer (ς ⟨b,k,ξ⟩)) u).run P w= .ok () (w.setRow b (arr.setIfInBounds k u)):=by
 obtain⟨i,hi,hn⟩:=ht.n
 have hadd:(⟨b,k,ξ⟩:Addr).add 0=⟨b,k,ξ⟩:=by unfold Addr.add;split<;>simp_all
 have hcell:w.cell? ⟨b,k,ξ⟩=ς arr[k]:=by simp[World.cell?,hh,hk]
 have hfro:w.frozen? ⟨b,k,ξ⟩=false:=by
  rcases hf with rfl|hf
  .grind[World.frozen?]
  grind[World.frozen?]
 have hst:(store ((⟨b,k,ξ⟩:Addr).add 0) u).run P w= .ok () (w.setRow b (arr.setIfInBounds k u)):=by
  rw[hadd,run_store P w _ u _ h1,hcell]
  simp[hfro,setCell_eq_setRow w b k arr vt fz u hh]
 simp_all[Instr.storeAt,Instr.sureAddr,storeVar,ey,storeCells]
theorem stz{e:List D}{xd:D}{c:C}[ht:TyN P t 1](hx:opT sl x= .v (.c (.zq e j)))(hy:opT sl y= .v (.c c))(hc:e[j]?=ς xd)(hl:Bs xd c=ζ):AWO P N ⟨ξ,.store t x y,ty,ps,af,gd⟩ ⟨sl,ob,nx⟩ ⟨sl,ob,nx⟩:=by
 intro cx E a w hR
 have h1:=hR.op x;rw[hx] at h1
 have h2:=hR.op y;rw[hy] at h2
 obtain⟨b,k,hu,hb,hrs⟩:=h1
 obtain⟨u,hcell,hud⟩:=Rn hrs hc
 have hsim:Rw u (a.eval y)/\(a.eval y).cells= #[a.eval y]/\(a.eval y).oneCell'=true:=by
  cases xd with
  |i kd n=>
   cases c with
   |d g z=>
    cases z with
    |i kd' n'=>
     simp[Bs] at hl;subst hl
     have h2:a.eval y= .int kd n':=by simpa [rdD] using vA h2
     rw[rsD] at hud
     obtain⟨m,rfl⟩:=hud
     rw[h2];exact⟨.inr (.inl ⟨_,_,_,rfl,rfl⟩),rfl,rfl⟩
    |_=>grind[Bs]
   |_=>grind[Bs]
  |b n=>
   cases c with
   |d g z=>
    cases z with
    |b n'=>
     have h2:a.eval y= .bool n':=by simpa [rdD] using vA h2
     rw[rsD] at hud
     obtain⟨m,rfl⟩:=hud
     rw[h2];exact⟨.inr (.inr (.inl ⟨_,_,rfl,rfl⟩)),rfl,rfl⟩
    |_=>grind[Bs]
   |_=>grind[Bs]
  |str n=>
   cases c with
   |d g z=>
    cases z with
    |str n'=>
     have h2:a.eval y= .string n':=by simpa [rdD] using vA h2
     rw[rsD] at hud
     obtain⟨m,rfl⟩:=hud
     rw[h2];exact⟨.inr (.inr (.inr ⟨_,_,rfl,rfl⟩)),rfl,rfl⟩
    |_=>grind[Bs]
   |_=>grind[Bs]
  |l xs=>simp_all[Bs]
  |k A n c'=>simp_all[Bs]
 obtain⟨hs1,hs2,hs3⟩:=hsim
 obtain⟨arr,vt,fz,hh,hfz⟩:=(hR.ok.sf.zb b hb).2.2.2
 have hlt:k+j<arr.size:=by
  rw[D6 hh] at hcell
  rcases ac9 (k+j) arr.size with h|h
  .exact h
  simp_all
 have hrun:=MW (P:=P) (t:=t) (b:=b) (k:=k+j) (u:=a.eval y) (w:=w) hs2 hs3 hh hfz hlt
 unfold Oper.wp
 simp only[execOp,hu,Sem.run_bind,hrun,Result.andThen_ok,Sem.run_pure,Oper.upon_skip,Act.put]
 refine⟨E,Ph hR ⟨rfl,rfl,rfl,by simp,λk' _ hk'=>dP _ _ _ _ (λe=>hk' (e▸hb)),λb' hb'=>?_⟩⟩
 by_cases hbb:b'=b
 .subst hbb
  have hsr:(w.setRow b' (arr.setIfInBounds (k+j) (a.eval y))).heap[b']?=ς (.cells (arr.setIfInBounds (k+j) (a.eval y)) vt fz):=setRow_heap w b' arr _ vt fz hh
  refine⟨λi v hv=>?_,_,_,_,hsr,by simp_all⟩
  rw[D6 hh] at hv hcell
  rw[D6 hsr]
  by_cases hi:i=k+j
  .simp_all
  refine⟨v,?_,.inl rfl⟩
  grind
 exact⟨.of_eq (dP _ _ _ _ hbb),(hR.ok.sf.zb b' hb').2.2.2.of_eq (dP _ _ _ _ hbb)⟩
def zfC:C->Bool
 | .z _=>ζ
 | .d (.b _) (.i _ _)| .d (.b _) (.b _)| .d (.b _) (.str _)=>ζ
 |_=>η
def zfCs:List C->Bool
 |[]=>ζ
 |c::cs=>zfC c&&zfCs cs
def PY:List T->Bool
 |[]=>ζ
 | .v (.c c)::ts=>zfC c&&PY ts
 | .v (.agg cs)::ts=>zfCs cs&&PY ts
 |_=>η
theorem aaw{c:C}(h:zfC c=ζ)(hc:cvC E w c u):cvC (EZ E.Z) w c u:=by
 cases c with
 |z x=>exact hc
 |d g x=>cases g<;>cases x<;>first|(simp[zfC] at h;done)|(simpa [cvC,gD,rdD] using hc)
 |_=>grind[zfC]
theorem Ui{E:Env}{w:World}:∀{cs:List C} {us:Lae},zfCs cs=ζ->CV E w cs us->CV (EZ E.Z) w cs us
 |[],[],_,_=>trivial
 |c::cs,u::us,h,hc=>by
  simp only[zfCs,f4] at h
  exact⟨aaw h.1 hc.1,Ui h.2 hc.2⟩
 |[],_::_,_,hc=>hc.elim
 |_::_,[],_,hc=>hc.elim
theorem Uj{E:Env}{w:World}{a:Act}:∀{ts:List T} {args:List Operand},PY ts=ζ->ts.length=args.length->(∀x t,(x,t)∈args.zip ts->cvT E w t (a.eval x))->TV (EZ E.Z) w ts (args.map a.eval)
 |[],[],_,_,_=>trivial
 |t::ts,y::args,h,hl,hn=>by
  have h0:=hn y t (by simp)
  have rest:=λhz=>Uj (ts:=ts) (args:=args) hz (by simp_all) (λx t hm=>hn x t (by simp[hm]))
  match t,h,h0 with
  | .v (.c c),h,h0=>
   simp only[PY,f4] at h
   exact⟨aaw h.1 h0,rest h.2⟩
  | .v (.agg cs),h,h0=>
   simp only[PY,f4] at h
   obtain⟨arr,hu,hc⟩:=h0
   exact⟨⟨arr,hu,Ui h.1 hc⟩,rest h.2⟩
  | .tup _,h,_=>grind[PY]
  | .any,h,_=>grind[PY]
 |[],_::_,_,hl,_=>by simp at hl
 |_::_,[],_,hl,_=>by simp at hl
theorem cz{n:Int}(ht:pH sl args=ς ts)(hF:FnM P f ts n)(hz:PY ts=ζ)(hN:nlt d N=ζ):
 AWO P N ⟨ς d,.call ⟨.value (.func f),args.toArray,tys⟩,ty,ps,af,gd⟩ ⟨sl,ob,nx⟩ ⟨(d,tI n)::sl,ob,nx⟩:=by
 intro cx E a w hR
 obtain⟨t1,t2⟩:=nC ht
 have hA:=Uj (a:=a) hz t1 (λx t hm=>by have:=hR.op x;rwa [Lk.mem t2 x t hm] at this)
 have hc:=hF.calls E.Z w (args.map a.eval).toArray (λb h=>⟨(hR.ok.sf.zb b h).1.2.1,(hR.ok.sf.zb b h).2.2.2⟩) hR.ok.tabs (λk hk h=>cx.gw.2 k hk (hR.ok.sf.zb _ h).1.2.2) oaa
 have hent:=hF.enters (args.map a.eval).toArray w
 unfold Oper.wp
 have hrun:(execOp a.eval ⟨ς d,.call ⟨.value (.func f),args.toArray,tys⟩,ty,ps,af,gd⟩).run P w= .ok (.enter f (args.map a.eval).toArray) w:=by
  simp only[execOp,resolve,Act.eval,Deferred.ofValue,Sem.run_bind,Sem.run_pure,Result.andThen_ok,invoke]
  simpa using hent
 rw[hrun,Oper.upon_enter]
 refine hc.mono ?_
 rintro e w' ⟨rfl,hp⟩
 have hR':=Ph hR hp
 refine⟨E,hR'.ok,hR'.dom,hR'.obs,λk=>?_,hR'.dfr,by simpa [Act.put] using hR'.size,hR'.td⟩
 rw[ef (by rw[hR'.size];exact bV hN)]
 by_cases hk:d=k
 .subst hk;rw[da,if_pos rfl];simp[cvT,cvV,cvC,gD,rdD]
 rw[ck _ _ hk,if_neg hk];exact hR'.sl k
def rgC(l:Nat):RC->Option (C×Lac)
 | .d (.l xs)=>ς (.r l (.l xs),[])
 | .d x=>ς (.d η x,[])
 | .own _ _ els n=>ς (.r l (.l els),[(els.length,n)])
 | .nil=>ς (.nil,[])
def Zj(l:Nat):List RC->Option (List C×Lac)
 |[]=>ς ([],[])
 |r::rs=>match rgC l r,Zj l rs with
  |some (c,e),ς (cs,es)=>ς (c::cs,e++es)
  |_,_=>ξ
def rgV(l:Nat):List RV->Option (V×Lac)
 |[.c r]=>match rgC l r with|some (c,e)=>ς (.c c,e)|none=>ξ
 |[.agg rs]=>match Zj l rs with|some (c,e)=>ς (.agg c,e)|none=>ξ
 |_=>ξ
def Env.reg(E:Env)(l:Nat)(R:Nat->Prop):Env:={E with T:=λk b=>(k=l/\R b)\/(k≠l/\E.T k b)}
theorem Zi{G R:Nat->Prop}{base:Nat}{r:RC}{c:C}{e:Lac}{bs:Lac}(h:rgC l r=ς (c,e))(he:Eqs e)(hr:rcR w G base r u bs)(hG:∀b,G b->R b)(hbs:∀b c arr t,(b,c)∈bs->w.heap[b]?=ς (.cells arr t (0,0))->R b):cvC (E.reg l R) w c u:=by
 have sub:∀b,R b->(E.reg l R).T l b:=λb hb=>.inl ⟨rfl,hb⟩
 cases r with
 |d x=>
  obtain⟨_,hr⟩:=hr
  cases x with
  |l xs=>simp[rgC] at h;obtain⟨rfl,rfl⟩:=h;exact bQ (λ_ _=>rfl) (λb hb=>sub b (hG b hb)) _ _ hr
  |i k n=>simp[rgC] at h;obtain⟨rfl,rfl⟩:=h;simp_all[cvC,gD,rdD]
  |b n=>simp[rgC] at h;obtain⟨rfl,rfl⟩:=h;simp_all[cvC,gD,rdD]
  |str n=>simp[rgC] at h;obtain⟨rfl,rfl⟩:=h;simp_all[cvC,gD,rdD]
  |k A n c'=>simp[rgC] at h;obtain⟨rfl,rfl⟩:=h;simp_all[cvC,gD,rdD]
 |own t sz els n=>
  simp[rgC] at h;obtain⟨rfl,rfl⟩:=h
  obtain⟨b,cc,arr,rfl,rfl,hh,ha,hlc,hmx,hes,hrd,hgb,hbb⟩:=hr
  have hn:els.length=n:=he.1
  subst hn
  simp only[cvC]
  rw[rdD]
  exact⟨_,_,rfl,hlc,.inr ⟨b,0,rfl,sub b (hbs b cc arr t (ad9.2 rfl) hh),bP (λ_ _=>rfl) (λb hb=>sub b (hG b hb)) rfl _ _ hrd⟩⟩
 |nil=>simp[rgC] at h;obtain⟨rfl,rfl⟩:=h;exact hr.2
theorem TF{E:Env}{w:World}{G R:Nat->Prop}{base l:Nat}:∀{rs:List RC} {cs:List C} {e:Lac} {us:Lae} {bs:Lac},Zj l rs=ς (cs,e)->Eqs e->My w G base rs us bs->(∀b,G b->R b)->(∀b c arr t,(b,c)∈bs->w.heap[b]?=ς (.cells arr t (0,0))->R b)->CV (E.reg l R) w cs us
 |[],cs,e,us,bs,h,he,hr,hG,hbs=>by
  simp[Zj] at h;obtain⟨rfl,rfl⟩:=h
  cases us with
  |nil=>trivial
  |cons _ _=>exact hr.elim
 |r::rs,cs,e,us,bs,h,he,hr,hG,hbs=>by
  simp only[Zj] at h
  split at h
  .rename_i c e1 cs' e2 h1 h2
   simp at h;obtain⟨rfl,rfl⟩:=h
   obtain⟨g1,g2⟩:=dE he
   cases us with
   |nil=>exact hr.elim
   |cons u us=>
    obtain⟨b1,b2,rfl,hr1,hr2⟩:=hr
    exact⟨Zi h1 g1 hr1 hG (λb c arr t hm=>hbs b c arr t (by simp[hm])),TF h2 g2 hr2 hG (λb c arr t hm=>hbs b c arr t (by simp[hm]))⟩
  cases h
theorem rgV_ok{G R:Nat->Prop}{base:Nat}{rs:List RV}{e:Lac}{bs:Lac}(h:rgV l rs=ς (v,e))(he:Eqs e)(hr:II w G base rs u bs)(hG:∀b,G b->R b)(hbs:∀b c arr t,(b,c)∈bs->w.heap[b]?=ς (.cells arr t (0,0))->R b):cvV (E.reg l R) w v u:=by
 match rs,h,hr with
 |[.c r],h,hr=>
  simp only[rgV] at h
  split at h
  .rename_i c e1 h1;simp at h;obtain⟨rfl,rfl⟩:=h;exact Zi h1 he hr hG hbs
  cases h
 |[.agg r],h,hr=>
  simp only[rgV] at h
  split at h
  .rename_i c e1 h1;simp at h;obtain⟨rfl,rfl⟩:=h
   obtain⟨arr,hu,hr⟩:=hr
   exact⟨arr,hu,TF h1 he hr hG hbs⟩
  cases h
 |[],h,_=>grind[rgV]
 |_::_::_,h,_=>grind[rgV]
theorem car{avs:List AV}{eqs e2:Lac}(ht:pH sl args=ς ts)(hp:t8 ob (C8 ts)=ς nob)(ha:rQ nob ts=ς (avs,eqs))(hF:Fn P f avs res)(he:Eqs eqs)(hi:rgV nx res=ς (v,e2))(he2:Eqs e2)(hN:nlt d N=ζ)(hn:nx+1=n):
 AWO P N ⟨ς d,.call ⟨.value (.func f),args.toArray,tys⟩,ty,ps,af,gd⟩ ⟨sl,ob,nx⟩ ⟨(d,.v v)::sl,ob,n⟩:=by
 subst hn
 intro cx E a w hR
 obtain⟨t1,t2⟩:=nC ht
 have hob:∀l x,go nob l=ς x->cN E w l x:=λl x h=>hR.obs l x (Lo.mem (wr hp) l x (BL h))
 have hA:=A7 (a:=a) hR.ok hob ha he t1 (λx t hm=>by have:=hR.op x;grind[Lk.mem])
 have hFb:∀b,yS E nob b->b<w.heap.size:=by
  rintro b ((h|⟨l,x,c,h1,h2⟩)|⟨l,h⟩)
  .exact hR.ok.fb b h
  .exact(hR.ok.rb l b c h2).1
  exact(hR.ok.sf.tb l b h).1.1
 have hc:=hF.calls (yS E nob) w (args.map a.eval).toArray hFb hR.ok.tabs oaa
 have hent:=hF.enters (args.map a.eval).toArray w
 unfold Oper.wp
 have hrun:(execOp a.eval ⟨ς d,.call ⟨.value (.func f),args.toArray,tys⟩,ty,ps,af,gd⟩).run P w= .ok (.enter f (args.map a.eval).toArray) w:=by
  simp only[execOp,resolve,Act.eval,Deferred.ofValue,Sem.run_bind,Sem.run_pure,Result.andThen_ok,invoke]
  simpa using hent
 rw[hrun,Oper.upon_enter]
 refine hc.mono ?_
 rintro e w' ⟨u,G,bs,rfl,hpa,hG,hres,hnd⟩
 have hsz:=hpa.size
 have hws:=hR.ok.size
 let R:Nat->Prop:=λb=>w.heap.size<=b/\b<w'.heap.size/\fR w' b
 have hbs:=AZ hres
 have hval:=rgV_ok (E:=E) (R:=R) hi he2 hres hG (λb c arr t hm hh=>⟨(hbs _ hm).1,(hbs _ hm).2,.mk hh⟩)
 have hold:∀b,b<w.heap.size->w'.heap[b]?=w.heap[b]?:=λb hb=>hpa.block b hb (λh=>h)
 have htl:∀l b,E.T l b->l≠nx:=λl b h e=>by have:=hR.td l b h;simp_all
 have hk:iG E w (E.reg nx R) w':=⟨λ_ _ h=>h,λ_ _ h=>h,λg b h=>hold b (hR.ok.hb h),λl b h=>⟨.inr ⟨htl l b h,h⟩,hold b (hR.ok.sf.tb l b h).1.1⟩,λb h=>⟨h,.of_eq (hold b (hR.ok.sf.zb b h).1.2.1)⟩,rfl⟩
 refine⟨E.reg nx R,⟨λb h=>by have:=hR.ok.fb b h;omega,hR.ok.gf,hR.ok.gn,λo b c h=>⟨by have:=(hR.ok.rb o b c h).1;omega,(hR.ok.rb o b c h).2⟩,hR.ok.inj,hpa.os.trans hR.ok.os,hpa.tape.trans hR.ok.tape,hpa.output.trans hR.ok.output,by omega,λb h hW=>by rw[hold b oaa];exact hR.ok.block b h hW,hR.ok.pin,hR.ok.ff,λb h h'=>(hR.ok.gc b h h').of_eq (hold b (hR.ok.fb b h)),?_⟩,λo x h=>Nat.lt_succ_of_lt (hR.dom o x h),λo x h=>?_,λk=>?_,hR.dfr,by simpa [Act.put] using hR.size,λl b h=>?_⟩
 .refine⟨λl b h=>?_,λl l' b h h'=>?_,λb h=>?_,λb h=>?_,hR.ok.sf.ze⟩
  .rcases h with⟨_,h1,h2,h3⟩|⟨_,h⟩
   .refine⟨⟨h2,.inl oaa⟩,λhf=>by have:=hR.ok.fb b hf;omega,λo c ho=>by have:=(hR.ok.rb o b c ho).1;omega,h3⟩
   obtain⟨h1,h2,h3,h4⟩:=hR.ok.sf.tb l b h
   exact⟨⟨by omega,h1.2⟩,h2,h3,h4.of_eq (hold b h1.1)⟩
  .rcases h with⟨rfl,h1,_⟩|⟨_,h⟩<;>rcases h' with⟨rfl,h1',_⟩|⟨_,h'⟩
   .rfl
   .have:=(hR.ok.sf.tb _ _ h').1.1;omega
   .have:=(hR.ok.sf.tb _ _ h).1.1;omega
   exact hR.ok.sf.tt _ _ _ h h'
  .obtain⟨h1,h2,h3,h4⟩:=hR.ok.sf.zc b h
   exact⟨⟨h1.1,by omega,h1.2.2⟩,h2,h3,h4.of_eq (hold b h1.2.1)⟩
  exact(hR.ok.sf.zs b h).trans (.of_eq (hold b (hR.ok.sf.zc b h).1.2.1))
 .exact fG hk (λb c h'=>hold b (hR.ok.rb o b c h').1) (λ_ _ _ h=>h) (hR.obs o x h)
 .rw[ef (by rw[hR.size];exact bV hN)]
  by_cases hk':d=k
  .subst hk';rw[da,if_pos rfl];exact hval
  rw[ck _ _ hk',if_neg hk'];exact jx hk (hR.sl k)
 rcases h with⟨e,_⟩|⟨_,h⟩
 .simp_all
 have:=hR.td l b h;grind
def Gr.hasR(l:Nat):Gr->Bool
 | .b _=>η
 | .s k| .t k=>fW k l
def C.hasR(l:Nat):C->Bool
 | .r k _=>fW k l
 | .d g _| .q g _ _=>g.hasR l
 |_=>η
def Hr(l:Nat):List C->Bool
 |[]=>η
 |c::cs=>c.hasR l||Hr l cs
def V.hasR(l:Nat):V->Bool
 | .c x=>x.hasR l
 | .agg xs=>Hr l xs
def LQ(l:Nat):List V->Bool
 |[]=>η
 |v::vs=>v.hasR l||LQ l vs
def T.hasR(l:Nat):T->Bool
 | .v x=>x.hasR l
 | .tup xs=>LQ l xs
 | .any=>η
def Hf(l:Nat):Lab->Option Lab
 |[]=>ς []
 |(k,t)::r=>match Hf l r with
  |some r'=>match t.hasR l with
   |true=>ς ((k,.any)::r')
   |false=>ς ((k,t)::r')
  |none=>ξ
def noR(l:Nat):Laa->Bool
 |[]=>ζ
 |(_,.var _ cs)::r=>!Hr l cs&&noR l r
 |(_,.row _ _ _ g _)::r=>!g.hasR l&&noR l r
 |(_,.rown _ _ _ g)::r=>!g.hasR l&&noR l r
 |(_,.abs j _)::r=>!fW j l&&noR l r
theorem Hg{l:Nat}:∀{sl sl':Lab},Hf l sl=ς sl'->∀k,gt sl' k= .any\/(gt sl' k=gt sl k/\(gt sl k).hasR l=η)
 |[],sl',h,k=>by simp[Hf] at h;subst h;exact .inl rfl
 |(j,t)::r,sl',h,k=>by
  simp only[Hf] at h
  split at h
  .rename_i r' h1
   have ih:=Hg h1 k
   split at h
   .simp at h;subst h
    by_cases hj:j=k
    .subst hj;left;rw[da]
    rw[ck _ _ hj,ck _ _ hj];exact ih
   rename_i ht
   simp at h;subst h
   by_cases hj:j=k
   .subst hj;right;rw[da,da];exact⟨rfl,ht⟩
   rw[ck _ _ hj,ck _ _ hj];exact ih
  cases h
theorem Ez{l:Nat}:∀{ob:Laa},noR l ob=ζ->∀{o ty cs},go ob o=ς (.var ty cs)->Hr l cs=η
 |[],_,o,ty,cs,h=>by cases h
 |(j,.var t c)::r,hn,o,ty,cs,h=>by
  simp only[noR,f4,ac8] at hn
  by_cases hj:j=o
  .subst hj;rw[bX] at h;cases h;exact hn.1
  rw[bg _ _ hj] at h;exact Ez hn.2 h
 |(j,.row ..)::r,hn,o,ty,cs,h=>by
  simp only[noR,f4] at hn
  by_cases hj:j=o
  .subst hj;rw[bX] at h;cases h
  rw[bg _ _ hj] at h;exact Ez hn.2 h
 |(j,.rown ..)::r,hn,o,ty,cs,h=>by
  simp only[noR,f4] at hn
  by_cases hj:j=o
  .subst hj;rw[bX] at h;cases h
  rw[bg _ _ hj] at h;exact Ez hn.2 h
 |(j,.abs _ _)::r,hn,o,ty,cs,h=>by
  simp only[noR,f4] at hn
  by_cases hj:j=o
  .subst hj;rw[bX] at h;cases h
  rw[bg _ _ hj] at h;exact Ez hn.2 h
theorem GA{l:Nat}:∀{ob:Laa},noR l ob=ζ->∀{o k y},go ob o=ς (.abs k y)->k≠l
 |[],_,o,k,y,h=>by cases h
 |(j,x)::r,hn,o,k,y,h=>by
  by_cases hj:j=o
  .subst hj;rw[bX] at h;cases h
   simp only[noR,f4] at hn
   intro e;simp_all
  rw[bg _ _ hj] at h
  cases x<;>first|(simp only[noR,f4] at hn;exact GA hn.2 h)|(simp only[noR] at hn;exact GA hn h)
theorem xQ{l:Nat}:∀{ob:Laa},noR l ob=ζ->∀{o t sz els g m},go ob o=ς (.row t sz els g m)->g.hasR l=η
 |[],_,o,t,sz,els,g,m,h=>by cases h
 |(j,x)::r,hn,o,t,sz,els,g,m,h=>by
  by_cases hj:j=o
  .subst hj;rw[bX] at h;cases h
   simp only[noR,f4] at hn
   simpa using hn.1
  rw[bg _ _ hj] at h
  cases x<;>simp only[noR,f4] at hn<;>exact xQ hn.2 h
theorem tY{l:Nat}:∀{ob:Laa},noR l ob=ζ->∀{o t sz els g},go ob o=ς (.rown t sz els g)->g.hasR l=η
 |[],_,o,t,sz,els,g,h=>by cases h
 |(j,x)::r,hn,o,t,sz,els,g,h=>by
  by_cases hj:j=o
  .subst hj;rw[bX] at h;cases h
   simp only[noR,f4] at hn
   simpa using hn.1
  rw[bg _ _ hj] at h
  cases x<;>simp only[noR,f4] at hn<;>exact tY hn.2 h
structure pJ(l:Nat)(E:Env)(w:World)(E':Env)(w':World):Prop where
 r:∀o x,E.r o=ς x->E'.r o=ς x
 H:∀(g:Bool) b,E.H g b->E'.H g b
 heap:∀(g:Bool) b,E.H g b->w'.heap[b]?=w.heap[b]?
 T:∀k b,k≠l->E.T k b->E'.T k b/\w'.heap[b]?=w.heap[b]?
 Z:∀b,E.Z b->E'.Z b/\vX w w' b
 n:E'.n=E.n
theorem pJ.HH(x:pJ l E w E' w'):∀{g:Gr},g.hasR l=η->∀b,E.H g b->E'.H g b
 | .b g,_,b,h=>x.H g b h
 | .s k,hl,b,h| .t k,hl,b,h=>(x.T k b (hP hl) h).1
theorem pJ.hp(x:pJ l E w E' w'):∀{g:Gr},g.hasR l=η->∀b,E.H g b->w'.heap[b]?=w.heap[b]?
 | .b g,_,b,h=>x.heap g b h
 | .s k,hl,b,h| .t k,hl,b,h=>(x.T k b (hP hl) h).2
theorem GE(x:pJ l E w E' w')(hb:w'.heap[b]?=w.heap[b]?):∀{g:Gr},g.hasR l=η->uf E w els b g->uf E' w' els b g
 | .b _,_,_=>trivial
 | .s n,hl,h| .t n,hl,h=>h.keep hb (λk hk=>(x.T n k (hP hl) hk).2) λk hk=>(x.T n k (hP hl) hk).1
theorem gD_kr(x:pJ l E w E' w'):∀{g:Gr} {d:D} {u:Value},g.hasR l=η->gD E w g d u->gD E' w' g d u
 | .b g,d,u,hl,h=>bQ (x.hp (g:=.b g) hl) (x.HH (g:=.b g) hl) d u h
 | .s g,d,u,hl,h=>bQ (x.hp (g:=.s g) hl) (x.HH (g:=.s g) hl) d u h
 | .t k,y,u,hl,h=>h.keep (λb hb=>(x.T k b (hP hl) hb).2) λb hb=>(x.T k b (hP hl) hb).1
theorem W8(x:pJ l E w E' w'):∀{c:C} {u:Value},c.hasR l=η->cvC E w c u->cvC E' w' c u
 | .d g d,u,hl,h=>gD_kr x hl h
 | .w o n,u,_,⟨b,c,h,hu⟩=>⟨b,c,x.r _ _ h,hu⟩
 | .s o sz off len,u,_,⟨A,c,b,k,h,hu⟩=>⟨A,c,b,k,x.r _ _ h,hu⟩
 | .p o k,u,_,⟨b,c,h,hu⟩=>⟨b,c,x.r _ _ h,hu⟩
 | .e o sz i j,u,_,⟨b,c,h,hu⟩=>⟨b,c,x.r _ _ h,hu⟩
 | .q g y j,u,hl,⟨b,k,hu,hb,h⟩=>⟨b,k,hu,x.HH hl b hb,rdL_mono (x.hp hl) (x.HH hl) y b k hb h⟩
 | .fn f,u,_,h=>h
 | .nil,u,_,h=>h
 | .any,u,_,_=>trivial
 | .r k d,u,hl,h=>bQ (λb hb=>(x.T k b (hP hl) hb).2) (λb hb=>(x.T k b (hP hl) hb).1) d u h
 | .z d,u,_,h=>ug (λb hb=>(x.Z b hb).2) (λb hb=>(x.Z b hb).1) d u h
 | .zq y j,u,_,⟨b,k,hu,hb,h⟩=>⟨b,k,hu,(x.Z b hb).1,rsL_mono (λb hb=>(x.Z b hb).2) (λb hb=>(x.Z b hb).1) y b k hb h⟩
 | .wn l n,u,_,.inl ⟨h1,h2⟩=>.inl ⟨by rw[x.n];exact h1,h2⟩
 | .wn l n,u,_,.inr ⟨h1,b,c,h,hu⟩=>.inr ⟨by rw[x.n];exact h1,b,c,x.r _ _ h,hu⟩
theorem RY{l:Nat}{E E':Env}{w w':World}(x:pJ l E w E' w'):∀{cs:List C} {us:Lae},Hr l cs=η->CV E w cs us->CV E' w' cs us
 |[],[],_,_=>trivial
 |c::cs,u::us,h,hc=>by
  simp only[Hr,adc] at h
  exact⟨W8 x h.1 hc.1,RY x h.2 hc.2⟩
 |[],_::_,_,h=>h.elim
 |_::_,[],_,h=>h.elim
theorem Xc(x:pJ l E w E' w')(hl:v.hasR l=η)(h:cvV E w v u):cvV E' w' v u:=by
 cases v with
 |c c=>exact W8 x hl h
 |agg cs=>obtain⟨arr,hu,h⟩:=h;exact⟨arr,hu,RY x hl h⟩
theorem VV_kr{l:Nat}{E E':Env}{w w':World}(x:pJ l E w E' w'):∀{cs:List V} {us:Lae},LQ l cs=η->VV E w cs us->VV E' w' cs us
 |[],[],_,_=>trivial
 |c::cs,u::us,h,hc=>by
  simp only[LQ,adc] at h
  exact⟨Xc x h.1 hc.1,VV_kr x h.2 hc.2⟩
 |[],_::_,_,h=>h.elim
 |_::_,[],_,h=>h.elim
theorem Xa(x:pJ l E w E' w'){t:T}(hl:t.hasR l=η)(h:cvT E w t u):cvT E' w' t u:=by
 cases t with
 |v v=>exact Xc x hl h
 |tup ts=>obtain⟨arr,hu,h⟩:=h;exact⟨arr,hu,VV_kr x hl h⟩
 |any=>trivial
def sfC(l:Nat):C->Option C
 | .r k x=>match fW k l with|true=>ς (.z x)|false=>ξ
 | .d _ (.i k n)=>ς (.z (.i k n))
 | .d _ (.b n)=>ς (.z (.b n))
 | .d _ (.str n)=>ς (.z (.str n))
 | .nil=>ς (.z (.l []))
 |_=>ξ
def ZL(l:Nat):List C->Option (List C)
 |[]=>ς []
 |c::cs=>match sfC l c,ZL l cs with
  |some x,ς xs=>ς (x::xs)
  |_,_=>ξ
def ZM(l:Nat):List T->Option (List T)
 |[.v (.c c),.v (.c (.d (.b _) (.i k n)))]=>match sfC l c with|some x=>ς [.v (.c x),.v (.c (.d η (.i k n)))]|none=>ξ
 |[.v (.agg cs),.v (.c (.d (.b _) (.i k n)))]=>match ZL l cs with|some x=>ς [.v (.agg x),.v (.c (.d η (.i k n)))]|none=>ξ
 |_=>ξ
theorem ZK{c c':C}(h:sfC l c=ς c')(hc:cvC E w c u):cvC (EZ (E.T l)) w c' u:=by
 cases c with
 |r k x=>
  simp only[sfC] at h
  split at h
  .rename_i hb
   have:=aat hb;subst this
   cases h;exact Zm _ _ hc
  cases h
 |d g x=>
  cases x with
  |i k n=>have hc:=tk hc;grind[sfC,cvC,rdD,rsD]
  |b n=>have hc:=tk hc;grind[sfC,cvC,rdD,rsD]
  |str n=>have hc:=tk hc;grind[sfC,cvC,rdD,rsD]
  |l xs=>grind[sfC]
  |k A n c'=>grind[sfC]
 |nil=>simp[sfC] at h;subst h;show rsD _ _ (.l []) u;rw[rsD];exact⟨ξ,0,hc,abk _,.inl rfl⟩
 |_=>grind[sfC]
theorem TZ{E:Env}{w:World}{l:Nat}:∀{cs cs':List C} {us:Lae},ZL l cs=ς cs'->CV E w cs us->CV (EZ (E.T l)) w cs' us
 |[],cs',us,h,hc=>by
  simp[ZL] at h;subst h
  cases us with
  |nil=>trivial
  |cons _ _=>exact hc.elim
 |c::cs,cs',us,h,hc=>by
  simp only[ZL] at h
  split at h
  .rename_i x xs h1 h2
   simp at h;subst h
   cases us with
   |nil=>exact hc.elim
   |cons u us=>exact⟨ZK h1 hc.1,TZ h2 hc.2⟩
  cases h
theorem cm{n:Int}(ht:pH sl args=ς ts)(hs:ZM l ts=ς ts')(hF:FnM P f ts' n)(hd:Hf l sl=ς sl')(ho:noR l ob=ζ)(hN:nlt d N=ζ):
 AWO P N ⟨ς d,.call ⟨.value (.func f),args.toArray,tys⟩,ty,ps,af,gd⟩ ⟨sl,ob,nx⟩ ⟨(d,tI n)::sl',ob,nx⟩:=by
 intro cx E a w hR
 obtain⟨t1,t2⟩:=nC ht
 have hA:TV (EZ (E.T l)) w ts' (args.map a.eval):=by
  match args,ts,t1,t2,hs with
  |[x,y2],[t,t'],_,t2,hs=>
   have h1:=hR.op x;rw[t2.1] at h1
   have h2:=hR.op y2;rw[t2.2.1] at h2
   unfold ZM at hs
   split at hs
   .rename_i c g k n he
    simp at he;obtain⟨rfl,rfl⟩:=he
    split at hs
    .rename_i z hz;cases hs;exact⟨ZK hz h1,by simp_all[cvT,cvV,cvC,gD,rdD],θ⟩
    cases hs
   .rename_i cs g k n he
    simp at he;obtain⟨rfl,rfl⟩:=he
    split at hs
    .rename_i z hz;cases hs
     obtain⟨arr,hu,h1⟩:=h1
     exact⟨⟨arr,hu,TZ hz h1⟩,by simp_all[cvT,cvV,cvC,gD,rdD],θ⟩
    cases hs
   cases hs
  |[],[],_,_,hs=>grind[ZM]
  |[_],[_],_,_,hs=>grind[ZM]
  |_::_::_::_,_::_::_::_,_,_,hs=>grind[ZM]
 have hc:=hF.calls (E.T l) w (args.map a.eval).toArray (λb h=>⟨(hR.ok.sf.tb l b h).1.1,(hR.ok.sf.tb l b h).2.2.2⟩) hR.ok.tabs (λk hk h=>hR.ok.nt hk h) oaa
 have hent:=hF.enters (args.map a.eval).toArray w
 unfold Oper.wp
 have hrun:(execOp a.eval ⟨ς d,.call ⟨.value (.func f),args.toArray,tys⟩,ty,ps,af,gd⟩).run P w= .ok (.enter f (args.map a.eval).toArray) w:=by
  simp only[execOp,resolve,Act.eval,Deferred.ofValue,Sem.run_bind,Sem.run_pure,Result.andThen_ok,invoke]
  simpa using hent
 rw[hrun,Oper.upon_enter]
 refine hc.mono ?_
 rintro e w' ⟨rfl,hp⟩
 have hsz:=hp.size
 have hws:=hR.ok.size
 let E':Env:={E with T:=λk b=>k≠l/\E.T k b}
 have hHn:∀(g:Bool) b,E.H g b->¬E.T l b:=λg b h hb=>by cases g;exact(hR.ok.sf.tb l b hb).2.1 h;exact(hR.ok.sf.tb l b hb).2.1 (hR.ok.gf b h)
 have hrn:∀o b c,E.r o=ς (b,c)->¬E.T l b:=λo b c h hb=>(hR.ok.sf.tb l b hb).2.2.1 o c h
 have htn:∀k b,k≠l->E.T k b->¬E.T l b:=λk b hk h hb=>hk (hR.ok.sf.tt k l b h hb)
 have hzn:∀b,cx.Z b->¬E.T l b:=λb h hb=>hR.ok.sf.tz hb h
 have kr:pJ l E w E' w':=⟨λ_ _ h=>h,λ_ _ h=>h,λg b h=>hp.block b (hR.ok.hb h) (hHn g b h),λk b hk h=>⟨⟨hk,h⟩,hp.block b (hR.ok.sf.tb k b h).1.1 (htn k b hk h)⟩,λb h=>⟨h,.of_eq (hp.block b (hR.ok.sf.zb b h).1.2.1 (hzn b (hR.ok.sf.ze b h)))⟩,rfl⟩
 refine⟨E',⟨λb h=>by have:=hR.ok.fb b h;omega,hR.ok.gf,hR.ok.gn,λo b c h=>⟨by have:=(hR.ok.rb o b c h).1;omega,(hR.ok.rb o b c h).2⟩,hR.ok.inj,hp.os.trans hR.ok.os,hp.tape.trans hR.ok.tape,hp.output.trans hR.ok.output,by omega,λb h hW=>?_,hR.ok.pin,hR.ok.ff,λb h h'=>(hR.ok.gc b h h').of_eq (hp.block b (hR.ok.fb b h) (hHn η b h)),⟨λk b h=>?_,λk k' b h h'=>hR.ok.sf.tt k k' b h.2 h'.2,λb h=>?_,λb h=>?_,hR.ok.sf.ze⟩⟩,hR.dom,λo x h=>?_,λk=>?_,hR.dfr,by simpa [Act.put] using hR.size,λk b h=>hR.td k b h.2⟩
 .rw[hp.block b oaa (λhz=>(hR.ok.sf.tb l b hz).1.2.nw.elim (λ_=>by omega) hW)];exact hR.ok.block b h hW
 .obtain⟨h1,h2,h3,h4⟩:=hR.ok.sf.tb k b h.2
  exact⟨⟨by omega,h1.2⟩,h2,h3,h4.of_eq (hp.block b h1.1 (htn k b h.1 h.2))⟩
 .obtain⟨h1,h2,h3,h4⟩:=hR.ok.sf.zc b h
  exact⟨⟨h1.1,by omega,h1.2.2⟩,h2,h3,h4.of_eq (hp.block b h1.2.1 (hzn b h))⟩
 .exact(hR.ok.sf.zs b h).trans (.of_eq (hp.block b (hR.ok.sf.zc b h).1.2.1 (hzn b h)))
 .have hob:=hR.obs o x h
  cases x with
  |var t cs=>
   obtain⟨b,c,arr,k1,k2,k3,k4⟩:=hob
   exact⟨b,c,arr,k1,(hp.block b (hR.ok.rb o b c k1).1 (hrn o b c k1)).trans k2,RY kr (Ez ho h) k3,k4⟩
  |row t sz els g m=>
   obtain⟨b,c,arr,k1,k2,k3,k4,k5,k6,k7,k8,k9⟩:=hob
   have hbb:=hp.block b (hR.ok.rb o b c k1).1 (hrn o b c k1)
   exact⟨b,c,arr,k1,hbb.trans k2,k3,k4,k5,k6,bP (kr.hp (xQ ho h)) (kr.HH (xQ ho h)) hbb _ _ k7,k8,k9.1,GE kr hbb (xQ ho h) k9.2⟩
  |rown t sz els g=>
   rcases hob with hob|⟨k0,b,c,arr,k1,k2,k3,k4,k5,k6,k7,k8⟩
   .exact .inl hob
   have hbb:=hp.block b (hR.ok.rb o b c k1).1 (hrn o b c k1)
   exact .inr ⟨k0,b,c,arr,k1,hbb.trans k2,k3,k4,k5,k6,bP (kr.hp (tY ho h)) (kr.HH (tY ho h)) hbb _ _ k7,k8.1,GE kr hbb (tY ho h) k8.2⟩
  |abs j y=>
   rcases hob with hob|⟨k0,b,c,k1,k2,k3⟩
   .exact .inl hob
   have hjl:=GA ho h
   exact .inr ⟨k0,b,c,k1,y.st _ _ _ _ _ _ k2 (λk hk=>(kr.T j k hjl hk).1) (hp.block b (hR.ok.rb o b c k1).1 (hrn o b c k1)) (λk hk=>(kr.T j k hjl hk).2),k3⟩
 rw[ef (by rw[hR.size];exact bV hN)]
 by_cases hk:d=k
 .subst hk;rw[da,if_pos rfl];simp[cvT,cvV,cvC,gD,rdD]
 rw[ck _ _ hk,if_neg hk]
 rcases Hg hd k with h|⟨h,h'⟩
 .simp_all[cvT,gt,trivial]
 show cvT E' w' (gt sl' k) _;rw[h];exact Xa kr h' (hR.sl k)
end
def G3(ns:List Int):ByteArray:=ns.foldl (λr n=>r.push (UInt8.ofNat n.toNat)) ByteArray.empty
section
variable{P:Program}{N:Nat}{d:Tmp}{x y:Operand}{ty:TypeId}{ps:String}{af:Array Edge}{gd:Option (Nat×Bool)}{sl:Lab}{ob:Laa}{nx:Nat}
theorem TD{w:World}{F:Nat->Prop}{b:Nat}:∀{xs:List Int} {k:Nat},rdLL w F (xs.map eU8) b k->∀(j:Nat) (u:Value),(xs.map (Value.int .u8))[j]?=ς u->w.cell? ⟨b,k+j,ξ⟩=ς u
 |[],k,_,j,u,h=>by simp at h
 |n::xs,k,h,j,u,hj=>by
  rw[adU,rdLL] at h
  obtain⟨h1,h2⟩:=h
  simp only[eU8,rdL,rdD] at h1
  obtain⟨⟨v,hc,rfl⟩,_⟩:=h1
  cases j with
  |zero=>simp_all
  |succ j=>
   have:=TD h2 j u (by simp_all)
   rwa [show k+(eU8 n).length+j=k+(j+1) from by simp[eU8];omega] at this
theorem acz{F:Nat->Prop}{A:Option Addr}{xs:List Int}{c:Nat}(h:xs=[]\/∃b off,A=ς ⟨b,off,ξ⟩/\rdLL w F (xs.map eU8) b off):(Conv.bytesToString (.slice A xs.length c)).run P w= .ok (.string (G3 xs)) w:=by
 cases A with
 |none=>
  rcases h with rfl|⟨b,off,h,_⟩
  .rfl
  cases h
 |some a=>
  refine run_bytesToString w a xs.length c xs ?_
  rcases h with rfl|⟨b,off,h,hr⟩
  .rfl
  cases h
  have:=lg (P:=P) (b:=b) (k:=off) (w:=w) (xs.map (Value.int .u8)) 0 #[] (λj u hj=>by rw[aa5];exact TD hr j u hj)
  simpa [loadCells] using this
theorem n_bts{e:TypeId}{xs:List Int}[hs:dz P t e sz by_][he:TyU P e (.int .u8)][hd:TyU P t' .string]:
 AWN P ⟨ς d,.convert t t' x,ty,ps,af,gd⟩ [(x,.v (.c (.d g (.l (xs.map eU8)))))] [] (tS (G3 xs)) []:=
 cA λE ac w hn _=>by
  have h:=hn x _ (.head _)
  replace h:=vA h;simp only[rdD] at h
  obtain⟨A,c,hu,_,h⟩:=h
  rw[adb] at hu
  refine⟨.string (G3 xs),?_,by rfl⟩
  have:=acz (P:=P) (w:=w) (F:=E.H g) (A:=A) (xs:=xs) (c:=c) (by
   grind)
  simp only[execOp,hu,Sem.run_bind,run_convert_bytes_string w t t' e A xs.length c hs.u he.h hd.h,this,Result.andThen_ok,Sem.run_pure]
theorem bt1{e:TypeId}{xs:List Int}[dz P t e sz by_][TyU P e (.int .u8)][TyU P t' .string](hx:opT sl x= .v (.c (.d g (.l (xs.map eU8)))))(hN:nlt d N=ζ):
 NS0 P N ⟨ς d,.convert t t' x,ty,ps,af,gd⟩ sl ob nx d (tS (G3 xs)) ⟨d,[(x,.v (.c (.d g (.l (xs.map eU8)))))],[],tS (G3 xs),[]⟩:=dx (st:=⟨sl,ob,nx⟩) n_bts rfl hN ⟨hx,θ⟩ trivial rfl
end
structure WE(up:Laa)(E:Env)(w:World)(E':Env)(w':World):Prop where
 r:∀o x,E.r o=ς x->E'.r o=ς x
 F:∀b,E.F b->E'.F b
 G:∀b,E.G b->E'.G b
 F':∀b,E'.F b->E.F b\/w.heap.size<=b
 heap:∀b,b<w.heap.size->(∀l ob c,(l,ob)∈up->E.r l≠ς (b,c))->w'.heap[b]?=w.heap[b]?
 own:∀l ob b c,(l,ob)∈up->E.r l=ς (b,c)->¬E.F b
 T:∀l b,E.T l b->E'.T l b
 T':∀l b,E'.T l b->E.T l b\/(E.r l=ξ/\∃x,E'.r l=ς x)
 Z:E'.Z=E.Z
 n:E'.n=E.n
theorem WE.of_ext(x:Ext E w E' w'):WE [] E w E' w':=⟨x.r,x.F,x.G,x.F',λb h _=>x.heap b h,λ_ _ _ _ h=>(by cases h),x.T,x.T',x.Z,x.n⟩
def AWX(P:Program)(o:Oper)(needs:List (Operand×T))(nob:Laa)(out:T)(nw up:Laa):Prop:=
 ∀(cx:Cx) (E:Env) (a:Act) (w:World),dr cx E w->(∀x t,(x,t)∈needs->cvT E w t (a.eval x))->(∀l ob,(l,ob)∈nob->cN E w l ob)->
  (∀l ob,(l,ob)∈nw->E.r l=ξ/\rsv l=η)->
  o.wp P a w (λa' w'=>∃v E',a'=a.put o.dst v/\dr cx E' w'/\WE up E w E' w'/\cvT E' w' out v/\(∀l ob,(l,ob)∈nw->cN E' w' l ob)/\(∀l ob,(l,ob)∈up->cN E' w' l ob)/\
   (∀l x,E'.r l=ς x->E.r l=ς x\/∃ob,(l,ob)∈nw)) (λ_ _ _=>False)
theorem GZ{o:Oper}{needs:List (Operand×T)}{nw:Laa}(h:AWN P o needs nob out nw):AWX P o needs nob out nw []:=by
 intro cx E a w ok hn hb hf
 refine Oper.wp_mono ?_ (h cx E a w ok hn hb hf)
 rintro a' w' ⟨v,E',h1,h2,h3,h4,h5,h6⟩
 exact⟨v,E',h1,h2,.of_ext h3,h4,h5,(λ_ _ h=>by cases h),h6⟩
theorem Us{d:Tmp}{gd:Option (Nat×Bool)}{o:Nat}{x0:Ob}{eqs:Lac}{nw:Laa}(hF:FnW P f x0.loc ts' y res)(hlen:ts.length=args.length)(hfx:x0.free=ζ)(hfy:y.free=ζ)(ha:Bv [] o ts=ς (ts',eqs))(he:Eqs eqs)(hi:BT nx res=ς (out,nw,n)):
 AWX P ⟨ς d,.call ⟨.value (.func f),args.toArray,tys⟩,ty,ps,af,gd⟩ (args.zip ts) [(o,x0)] out nw [(o,y)]:=by
 intro cx E a w ok hn hb hfr
 obtain⟨nob,hnob⟩:∃nob:Laa,nob=[]:=⟨_,rfl⟩
 rw[<-hnob] at ha
 have hob:∀l x,go nob l=ς x->cN E w l x:=λl x h=>by subst hnob;cases h
 have hx0:=hb o x0 (by simp)
 obtain⟨b,c0,hr,hbF⟩:∃b c0,E.r o=ς (b,c0)/\¬E.F b:=by
  cases x0 with
  |rown ty sz els g=>exact absurd hfx adS
  |abs l y=>exact absurd hfx adS
  |var t cs=>obtain⟨b,c,arr,h1,h2,h3,h4⟩:=hx0;simp_all
  |row t sz els g m=>
   obtain⟨b,c,arr,h1,h2,h3,h4,h5,h6,h7,h8,h9⟩:=hx0
   obtain⟨g,rfl,rfl⟩:=yV hfx
   simp_all
 have hbC:¬mJ E nob b:=by
  rintro(h|⟨l,x,c,h1,h2⟩)
  .exact hbF h
  subst hnob;cases h1
 have hFb:∀b,mJ E nob b->b<w.heap.size:=by
  rintro b (h|⟨l,x,c,h1,h2⟩)
  .exact ok.fb b h
  exact(ok.rb l b c h2).1
 have hbs0:=(ok.rb o b c0 hr).1
 have hA:=H8 (a:=a) ok hob hr ha he hlen hn
 have hX:cN (E0 b c0 (mJ E nob)) w 200 x0.loc:=by
  have hl:=KZ ok hfx hx0
  have hnoG:∀E2:Env,(∀k,E.F k->E2.F k)->E2.r 200=ς (b,c0)->¬E2.F b->cN E2 w 200 x0.loc:=by
   intro E2 h1 h2 h3
   cases x0 with
   |rown ty sz els g=>exact absurd hfx adS
   |abs l y=>exact absurd hfx adS
   |var t cs=>
    obtain⟨b',c',arr,k1,k2,k3,k4⟩:=hl
    rw[hr] at k1;cases k1
    refine⟨b,c0,arr,h2,k2,?_,h3⟩
    have key:∀(cs:List C) (us:Lae),cs.all C.free=ζ->CV E w (cs.map C.loc) us->CV E2 w (cs.map C.loc) us:=by
     intro cs
     induction cs with
     |nil=>
      intro us _ h
      cases us with
      |nil=>trivial
      |cons _ _=>exact h.elim
     |cons c cs ih=>
      intro us hf h
      simp only[adm,f4] at hf
      cases us with
      |nil=>exact h.elim
      |cons u us=>
       refine⟨?_,ih us hf.2 h.2⟩
       have h5:=h.1
       cases c with
       |d g y=>cases g with
        |b g=>exact bQ (λ_ _=>rfl) h1 _ _ h5
        |s n=>simp[C.free] at hf
        |t n=>simp[C.free] at hf
       |nil=>exact h5
       |fn f=>exact h5
       |any=>trivial
       |_=>simp[C.free] at hf
    exact key cs _ hfx k3
   |row t sz els g m=>
    obtain⟨g,rfl,rfl⟩:=yV hfx
    obtain⟨b',c',arr,k1,k2,k3,k4,k5,k6,k7,k8,k9⟩:=hl
    rw[hr] at k1;cases k1
    exact⟨b,c0,arr,h2,k2,k3,k4,k5,k6,bP (λ_ _=>rfl) h1 rfl _ _ k7,λ_=>h3,(λh=>by cases h),θ⟩
  exact hnoG _ (λk hk=>.inl hk) (by simp[E0]) hbC
 have hc:=hF.calls (mJ E nob) w (args.map a.eval).toArray b c0 hFb hbs0 ok.tabs (ok.ntab hr) hX oaa
 have hent:=hF.enters (args.map a.eval).toArray w
 unfold Oper.wp
 have hrun:(execOp a.eval ⟨ς d,.call ⟨.value (.func f),args.toArray,tys⟩,ty,ps,af,gd⟩).run P w= .ok (.enter f (args.map a.eval).toArray) w:=by
  simp only[execOp,resolve,Act.eval,Deferred.ofValue,Sem.run_bind,Sem.run_pure,Result.andThen_ok,invoke]
  simpa using hent
 rw[hrun,Oper.upon_enter]
 refine hc.mono ?_
 rintro e w' ⟨v,G,bs,rfl,hpast,hG2,hres,hnd,hY⟩
 have hbs:=AZ hres
 have hlab:∀l,nx<=l->l<nx+bs.length->E.r l=ξ/\rsv l=false:=by
  have himp:=AF (E:=⟨λo=>bs[o-nx]?,G,G,λ_ _=>False,λ_=>False,λ_=>False⟩) (λ_ h=>h) (λb _ h=>h) hi hres (λi p hi=>by simp_all)
  intro l h1 h2
  obtain⟨x,hx⟩:=himp.2.2.2 l h1 (by rw[himp.2.1];exact h2)
  exact hfr l x hx
 let E':Env:=⟨λl=>if nx<=l/\l<nx+bs.length then bs[l-nx]? else E.r l,λk=>E.F k\/G k,λk=>E.G k\/G k,E.T,E.Z,E.n⟩
 have hsz:=hpast.size
 have hws:=ok.size
 have hold:∀l p,E.r l=ς p->E'.r l=ς p:=λl p h=>by
  grind
 have hnew:∀l b c,E'.r l=ς (b,c)->(nx<=l/\l<nx+bs.length/\bs[l-nx]?=ς (b,c))\/(E.r l=ς (b,c)):=by
  intro l b c h
  have h:(if nx<=l/\l<nx+bs.length then bs[l-nx]? else E.r l)=ς (b,c):=h
  split at h
  .simp_all
  exact .inr h
 have hheap:∀k,k<w.heap.size->k≠b->w'.heap[k]?=w.heap[k]?:=λk hk hne=>hpast.block k hk hne
 have hHb:∀(g:Bool) k,E.H g k->k≠b/\k<w.heap.size:=λg k hk=>⟨λe=>by subst e;cases g;exact hbF hk;exact hbF (ok.gf _ hk),ok.hb hk⟩
 have ok':dr cx E' w':=by
  refine⟨λk h=>?_,λk h=>?_,λk h=>?_,λl k c h=>?_,λl l' k c c' h h'=>?_,by rw[hpast.os];exact ok.os,by rw[hpast.tape];exact ok.tape,by rw[hpast.output];exact ok.output,by omega,λk h hW=>?_,λl p hv h=>?_,λk h=>?_,
   λk h h'=>h.elim (λh=>(ok.gc k h h').of_eq (hheap k (hHb η k h).2 (hHb η k h).1)) (λh=>(hG2 k h).2.2),
   ok.sf.turn hr rfl rfl (λk h=>h.elim .inl (λh=>.inr (hG2 k h).1)) (λl k c h=>by
    grind) hsz hheap⟩
  .rcases h with h|h
   .have:=ok.fb k h;omega
   simp_all
  .rcases h with h|h
   .exact .inl (ok.gf k h)
   grind
  .rcases h with h|h
   .exact ok.gn k h
   grind
  .rcases hnew l k c h with⟨_,_,h⟩|h
   .have:=AZ hres _ (v0 h);exact⟨by omega,.inl (.inl oaa)⟩
   have:=ok.rb l k c h;exact⟨by omega,this.2⟩
  .rcases hnew l k c h with⟨h1,h2,h3⟩|h3<;>rcases hnew l' k c' h' with⟨k1,k2,k3⟩|k3
   .have hi:l-nx<bs.length:=by omega
    have hj:l'-nx<bs.length:=by omega
    rcases aei (l-nx) (l'-nx) with hlt|heq|hlt
    .exfalso
     have:=adl.1 hnd (l-nx) (l'-nx) (by simp_all) (by simp_all) hlt
     simp_all
    .omega
    exfalso
    have:=adl.1 hnd (l'-nx) (l-nx) (by simp_all) (by simp_all) hlt
    simp_all
   .have h5:=hbs _ (v0 h3);have h6:=ok.rb l' k c' k3;omega
   .have h5:=hbs _ (v0 k3);have h6:=ok.rb l k c h3;omega
   exact ok.inj l l' k c c' h3 k3
  .have hkb:k≠b:=λe=>by
    subst e
    rcases ok.rw hr with h'|h'
    .omega
    simp_all
   rw[hheap k oaa hkb];exact ok.block k h hW
  .rcases hnew l p.1 p.2 h with⟨h1,h2,_⟩|h
   .rw[xT (hlab l h1 h2).2] at hv;cases hv
   exact ok.pin l p hv h
  rcases h with h|h
  .exact ok.ff k h
  grind
 have himp:=AF (E:=E') (G:=G) (base:=w.heap.size) (λb h=>.inr h) (λb hb hng hF=>by
  rcases hF with h|h
  .have:=ok.fb b h;omega
  simp_all) hi hres (λi p hi=>by
   grind)
 refine⟨v,E',rfl,ok',⟨hold,λk h=>.inl h,λk h=>.inl h,λk h=>h.elim .inl (λh=>.inr (hG2 k h).1),λk hk hne=>hheap k hk (λe=>by simp_all),λl ob k c hm hl=>?_,λ_ _ h=>h,λ_ _ h=>.inl h,rfl,rfl⟩,himp.1,λl x hm=>(himp.2.2.1 l x hm).1,λl x hm=>?_,λl p h=>?_⟩
 .grind
 .simp at hm;obtain⟨rfl,rfl⟩:=hm
  refine IH hfy (λk c h=>?_) (λg k h=>?_) (λ_ _ _=>rfl) (λ_ _ _=>rfl) (λk c h hn hh=>?_) hY
  .simp[E1] at h;grind
  .cases g with
   |false=>
    rcases h with h|h
    .rcases h with h|⟨l,x,c,h1,h2⟩
     .exact .inl h
     subst hnob;cases h1
    exact .inr h
   |true=>exact .inr h
  simp[E1] at h;grind
 rcases hnew l p.1 p.2 h with⟨h1,h2,_⟩|h
 .obtain⟨x,hx⟩:=himp.2.2.2 l h1 (by rw[himp.2.1];exact h2);grind
 simp_all
def Ob.hasO(o:Nat):Ob->Bool
 | .var _ cs=>Kx o cs
 | .row _ _ _ _ _=>η
 | .rown _ _ _ _=>η
 | .abs _ _=>η
structure ta(up:Laa)(kl:Option Nat)(E:Env)(w:World)(E':Env)(w':World):Prop where
 r:∀o x,kl≠ς o->E.r o=ς x->E'.r o=ς x
 F:∀b,E.F b->E'.F b
 G:∀b,E.G b->E'.G b
 F':∀b,E'.F b->E.F b\/w.heap.size<=b\/∀l c,kl≠ς l->E.r l≠ς (b,c)
 heap:∀b,b<w.heap.size->(∀l ob c,(l,ob)∈up->E.r l≠ς (b,c))->(∀l c,kl=ς l->E.r l≠ς (b,c))->w'.heap[b]?=w.heap[b]?
 own:∀l ob b c,(l,ob)∈up->E.r l=ς (b,c)->¬E.F b
 ownk:∀l b c,kl=ς l->E.r l=ς (b,c)->¬E.F b
 T:∀l b,E.T l b->E'.T l b
 T':∀l b,E'.T l b->E.T l b\/(E.r l=ξ/\∃x,E'.r l=ς x)\/(kl=ς l/\∃x,E.r l=ς x)
 Z:E'.Z=E.Z
 n:E'.n=E.n
theorem ta.of_extW{up:Laa}(x:WE up E w E' w'):ta up ξ E w E' w':=
 ⟨λo y _ h=>x.r o y h,x.F,x.G,(λb h=>(x.F' b h).elim .inl (λh=>.inr (.inl h))),λb h h' _=>x.heap b h h',x.own,(λ_ _ _ h=>by cases h),x.T,λl b h=>(x.T' l b h).imp id .inl,x.Z,x.n⟩
section
variable{cx:Cx}{E E':Env}{w w':World}{up:Laa}{kl:Option Nat}
theorem ta.hF(ok:dr cx E w)(x:ta up kl E w E' w')(b:Nat)(h:E.F b):w'.heap[b]?=w.heap[b]?:=
 x.heap b (ok.fb b h) (λl ob c hm hr=>x.own l ob b c hm hr h) (λl c hl hr=>x.ownk l b c hl hr h)
theorem ta.hT(ok:dr cx E w)(x:ta up kl E w E' w')(l b:Nat)(h:E.T l b):E'.T l b/\w'.heap[b]?=w.heap[b]?:=
 ⟨x.T l b h,x.heap b (ok.sf.tb l b h).1.1 (λl' ob c _ hr=>(ok.sf.tb l b h).2.2.1 l' c hr) (λl' c _ hr=>(ok.sf.tb l b h).2.2.1 l' c hr)⟩
theorem ta.hH(ok:dr cx E w)(x:ta up kl E w E' w'):∀(g:Gr) (b:Nat),E.H g b->w'.heap[b]?=w.heap[b]?
 | .b η,b,h=>x.hF ok b h
 | .b ζ,b,h=>x.hF ok b (ok.gf b h)
 | .s n,b,h| .t n,b,h=>(x.hT ok n b h).2
theorem ta.H(x:ta up kl E w E' w'):∀(g:Gr) (b:Nat),E.H g b->E'.H g b
 | .b η,b,h=>x.F b h
 | .b ζ,b,h=>x.G b h
 | .s n,b,h| .t n,b,h=>x.T n b h
theorem ta.hZ(ok:dr cx E w)(x:ta up kl E w E' w')(b:Nat)(h:E.Z b):E'.Z b/\vX w w' b:=
 ⟨by rw[x.Z];exact h,.of_eq (x.heap b (ok.sf.zb b h).1.2.1 (λl' ob c _ hr=>(ok.sf.zb b h).2.2.1 l' c hr) (λl' c _ hr=>(ok.sf.zb b h).2.2.1 l' c hr))⟩
theorem ta.keeps(ok:dr cx E w)(x:ta up ξ E w E' w'):iG E w E' w':=⟨λo y h=>x.r o y (by simp) h,λg=>x.H g,λg=>x.hH ok g,x.hT ok,x.hZ ok,x.n⟩
theorem ta.but{o:Nat}(ok:dr cx E w)(x:ta up (ς o) E w E' w'):eP o E w E' w':=⟨λl y hl h=>x.r l y (by grind) h,λg=>x.H g,λg=>x.hH ok g,x.hT ok,x.hZ ok,λl _=>by rw[x.n]⟩
theorem G7(ok:dr cx E w)(x:ta up kl E w E' w'){t:T}(hf:∀o,kl=ς o->t.has o=η)(h:cvT E w t u):cvT E' w' t u:=by
 cases kl with
 |none=>exact jx (x.keeps ok) h
 |some o=>exact Gj (x.but ok) (hf o rfl) h
theorem aaW(ok:dr cx E w)(x:ta up kl E w E' w'){us:Lae}(hf:∀o,kl=ς o->Kx o cs=η)(h:CV E w cs us):CV E' w' cs us:=by
 cases kl with
 |none=>exact s9 (x.keeps ok) h
 |some o=>exact Lf (x.but ok) (hf o rfl) h
theorem K1(ok:dr cx E w)(x:ta up kl E w E' w')(hb:w'.heap[b]?=w.heap[b]?):∀{g:Gr},uf E w els b g->uf E' w' els b g
 | .b _,_=>trivial
 | .s n,h| .t n,h=>h.keep hb (λk hk=>(x.hT ok n k hk).2) λk hk=>(x.hT ok n k hk).1
theorem Rg(ok:dr cx E w)(x:ta up kl E w E' w'){o:Nat}{ob:Ob}(hno:∀ob',(o,ob')∉up)(hk:kl≠ς o)(hh:∀d,kl=ς d->ob.hasO d=η)(h:cN E w o ob):cN E' w' o ob:=by
 have hb:∀b c,E.r o=ς (b,c)->w'.heap[b]?=w.heap[b]?:=λb c hr=>
  x.heap b (ok.rb o b c hr).1 (λl ob' c' hm hr'=>by have:=ok.inj _ _ _ _ _ hr hr';simp_all) (λl c' hl hr'=>by have:=ok.inj _ _ _ _ _ hr hr';simp_all)
 have hF:∀b c,E.r o=ς (b,c)->¬E.F b->¬E'.F b:=λb c hr hn hF=>(x.F' b hF).elim hn (λh=>h.elim (λhb=>by have:=(ok.rb o b c hr).1;omega) (λhb=>hb o c hk hr))
 cases ob with
 |var ty cs=>
  obtain⟨b,c,arr,hr,hh',hc,hf⟩:=h
  exact⟨b,c,arr,x.r _ _ hk hr,(hb b c hr).trans hh',aaW ok x hh hc,hF b c hr hf⟩
 |row ty sz els g m=>
  obtain⟨b,c,arr,hr,hh',h1,h2,h3,h4,h5,h6,h7⟩:=h
  exact⟨b,c,arr,x.r _ _ hk hr,(hb b c hr).trans hh',h1,h2,h3,h4,bP (x.hH ok g) (x.H g) (hb b c hr) _ _ h5,λhm=>hF b c hr (h6 hm),λhm=>⟨x.H η b (h7.1 hm).1,λhg=>x.H ζ b ((h7.1 hm).2 hg)⟩,K1 ok x (hb b c hr) h7.2⟩
 |rown ty sz els g=>
  rcases h with⟨h0,h1⟩|⟨h0,b,c,arr,hr,hh',h1,h2,h3,h4,h5,h6⟩
  .exact .inl ⟨by rw[x.n];exact h0,h1⟩
  exact .inr ⟨by rw[x.n];exact h0,b,c,arr,x.r _ _ hk hr,(hb b c hr).trans hh',h1,h2,h3,h4,bP (x.hH ok g) (x.H g) (hb b c hr) _ _ h5,hF b c hr h6.1,K1 ok x (hb b c hr) h6.2⟩
 |abs l y=>
  rcases h with⟨h0,h1⟩|⟨h0,b,c,hr,h1,h2⟩
  .exact .inl ⟨by rw[x.n];exact h0,h1⟩
  exact .inr ⟨by rw[x.n];exact h0,b,c,x.r _ _ hk hr,y.st _ _ _ _ _ _ h1 (λk hk=>(x.hT ok l k hk).1) (hb b c hr) (λk hk=>(x.hT ok l k hk).2),hF b c hr h2⟩
end
def AWK(P:Program)(o:Oper)(needs:List (Operand×T))(nob:Laa)(out:T)(nw up:Laa)(kl:Option Nat):Prop:=
 ∀(cx:Cx) (E:Env) (a:Act) (w:World),dr cx E w->(∀x t,(x,t)∈needs->cvT E w t (a.eval x))->(∀l ob,(l,ob)∈nob->cN E w l ob)->
  (∀l ob,(l,ob)∈nw->E.r l=ξ/\rsv l=η)->
  o.wp P a w (λa' w'=>∃v E',a'=a.put o.dst v/\dr cx E' w'/\ta up kl E w E' w'/\cvT E' w' out v/\(∀l ob,(l,ob)∈nw->cN E' w' l ob)/\(∀l ob,(l,ob)∈up->cN E' w' l ob)/\
   (∀l x,E'.r l=ς x->E.r l=ς x\/∃ob,(l,ob)∈nw)) (λ_ _ _=>False)
theorem wW{o:Oper}{needs:List (Operand×T)}{nw up:Laa}(h:AWX P o needs nob out nw up):AWK P o needs nob out nw up none:=by
 intro cx E a w ok hn hb hf
 refine Oper.wp_mono ?_ (h cx E a w ok hn hb hf)
 rintro a' w' ⟨v,E',h1,h2,h3,h4,h5,h6,h7⟩
 exact⟨v,E',h1,h2,.of_extW h3,h4,h5,h6,h7⟩
def badK(d:Nat)(ob0:Laa)(k:Nat):Bool:=fW k d||match go ob0 k with
 |some x=>x.hasO d
 |none=>η
def Hc(d:Nat)(ob0:Laa):Laa->Option Laa
 |[]=>ς []
 |(k,x)::r=>match Hc d ob0 r,badK d ob0 k with
  |some r',ζ=>ς r'
  |some r',η=>ς ((k,x)::r')
  |none,_=>ξ
def HT:List Nat->Lab->Laa->Option (Lab×Laa)
 |[],sl,ob=>ς (sl,ob)
 |d::ds,sl,ob=>match nX d sl,Hc d ob ob with
  |some sl',ς ob'=>HT ds sl' ob'
  |_,_=>ξ
theorem He{d:Nat}{ob0:Laa}:∀{ob ob':Laa},Hc d ob0 ob=ς ob'->∀{l:Nat} {x:Ob},go ob' l=ς x->badK d ob0 l=η/\go ob l=ς x
 |[],ob',h,l,x,hl=>by simp[Hc] at h;subst h;cases hl
 |(k,y)::r,ob',h,l,x,hl=>by
  simp only[Hc] at h
  cases h1:Hc d ob0 r with
  |none=>simp_all
  |some r'=>
   cases h2:badK d ob0 k with
   |true=>
    simp[h1,h2] at h;subst h
    have ih:=He h1 hl
    refine⟨ih.1,?_⟩
    rw[bg _ _ (λe=>by simp_all)];exact ih.2
   |false=>
    simp[h1,h2] at h;subst h
    by_cases hk:k=l
    .subst hk;rw[bX] at hl ⊢;simp_all
    rw[bg _ _ hk] at hl ⊢;exact He h1 hl
theorem Oh:∀{ds:List Nat} {sl sl':Lab} {ob ob':Laa},HT ds sl ob=ς (sl',ob')->
 (∀k,gt sl' k= .any\/(gt sl' k=gt sl k/\∀d∈ds,(gt sl k).has d=η))/\(∀l x,go ob' l=ς x->go ob l=ς x/\∀d∈ds,l≠d/\x.hasO d=η)
 |[],sl,sl',ob,ob',h=>by
  simp[HT] at h;simp_all
 |d::ds,sl,sl',ob,ob',h=>by
  simp only[HT] at h
  cases h1:nX d sl with
  |none=>simp_all
  |some sl1=>
   cases h2:Hc d ob ob with
   |none=>simp_all
   |some ob1=>
    simp only[h1,h2] at h
    obtain⟨i1,i2⟩:=Oh h
    refine⟨λk=>?_,λl x hl=>?_⟩
    .rcases i1 k with e|⟨e1,e2⟩
     .exact .inl e
     rcases zl h1 k with e|⟨e3,e4⟩
     .simp_all
     simp_all
    obtain⟨e1,e2⟩:=i2 l x hl
    obtain⟨e3,e4⟩:=He h2 e1
    refine⟨e4,λd' hd'=>?_⟩
    rcases aa2.1 hd' with rfl|hd'
    .simp only[badK,e4,adc] at e3
     exact⟨hP e3.1,e3.2⟩
    simp_all
structure Inx where
 x:Inf
 up:Laa
 kl:Option Nat
def Xr(N:Nat)(o:Oper)(x:Inf):Prop:=(o.dst=ς x.d/\x.d<N)\/(o.dst=ξ/\N<=x.d/\x.out= .any)
def NX(P:Program)(N:Nat)(o:Oper)(st st':St)(y:Inx):Prop:=
 AWK P o y.x.needs y.x.nob y.x.out y.x.nw y.up y.kl/\Xr N o y.x/\Lk st.sl y.x.needs/\Lo st.ob y.x.nob/\Nw st.nx y.x.nw st'.nx/\st'=⟨(y.x.d,y.x.out)::st.sl,y.x.nw++(y.up++st.ob),st'.nx⟩
theorem OL{o:Oper}{st':St}{x:Inf}(h:NS P N o st st' x):NX P N o st st' ⟨x,[],ξ⟩:=by
 obtain⟨h1,h2,h3,h4,h5,h6,h7⟩:=h
 exact⟨wW (GZ h1),.inl ⟨h2,h3⟩,h4,h5,h6,h7⟩
def DS2(P:Program)(N:Nat)(ops:Array Oper)(o:Oper)(st st':St)(y:Inx):Prop:=
 (o.guard=ξ/\NX P N o st st' y)\/
 (∃j dj b z,o.guard=ς (j,b)/\(ops[j]?).bind (·.dst)=ς dj/\dj<N/\gt st.sl dj=tB b/\NX P N o st st' z/\y=⟨{z.x with needs:=(.tmp dj,tB b)::z.x.needs},z.up,z.kl⟩)\/
 (∃j dj b d,o.guard=ς (j,b)/\(ops[j]?).bind (·.dst)=ς dj/\dj<N/\noG b (gt st.sl dj)=ζ/\o.dst=ς d/\d<N/\y=⟨⟨d,[(.tmp dj,gt st.sl dj)],[],.tup [],[]⟩,[],ξ⟩/\st'=⟨(d,.tup [])::st.sl,st.ob,st.nx⟩)
def obF(p:Nat->Bool):Nat->List Inx->Laa->Laa
 |_,[],acc=>acc
 |k,y::ys,acc=>obF p (k+1) ys (if p k then y.x.nw++(y.up++acc) else acc)
def rj(y:Inx)(l:Nat):Bool:=(y.x.nw.any λp=>fW p.1 l)||(y.up.any λp=>fW p.1 l)
theorem CM{A B:Laa}(h:(A.any λp=>fW p.1 l)=η):go (A++B) l=go B l:=by
 induction A with
 |nil=>rfl
 |cons p A ih=>
  simp only[List.any_cons,adc] at h
  obtain⟨k,v⟩:=p
  rw[ade,go,h.1]
  exact ih h.2
theorem AC{A B:Laa}(h:(A.any λp=>fW p.1 l)=ζ):go (A++B) l=go A l:=by
 induction A with
 |nil=>simp at h
 |cons p A ih=>
  obtain⟨k,v⟩:=p
  rw[ade,go,go]
  grind
theorem s3{p q:Nat->Bool}{l:Nat}:∀{ys:List Inx} {k:Nat} {A B:Laa},go A l=go B l->(∀j y,ys[j]?=ς y->rj y l=ζ->p (k+j)=q (k+j))->go (obF p k ys A) l=go (obF q k ys B) l
 |[],_,_,_,h,_=>h
 |y::ys,k,A,B,h,ht=>by
  simp only[obF]
  refine s3 ?_ (λj z hz hj=>by have:=ht (j+1) z (by simp_all) hj;grind)
  cases hto:rj y l with
  |true=>
   have h0:=ht 0 y rfl hto
   rw[adC] at h0
   rw[h0]
   split
   .by_cases hn:(y.x.nw.any λp=>fW p.1 l)=ζ
    .rw[AC hn,AC hn]
    rw[CM (A:=y.x.nw) (ad5.2 hn),CM (A:=y.x.nw) (ad5.2 hn)]
    have hu:(y.up.any λp=>fW p.1 l)=true:=by simp only[rj,adf] at hto;exact hto.resolve_left hn
    rw[AC hu,AC hu]
   exact h
  |false=>
   simp only[rj,adc] at hto
   have e:∀X:Laa,go (y.x.nw++(y.up++X)) l=go X l:=λX=>by rw[CM hto.1,CM hto.2]
   split<;>split<;>(simp_all)<;>exact h
theorem Ir{p:Nat->Bool}{y:Inx}:∀{ys:List Inx} {k:Nat} {A:Laa},obF p k (ys++[y]) A=if p (k+ys.length) then y.x.nw++(y.up++obF p k ys A) else obF p k ys A
 |[],k,A=>by simp[obF]
 |z::ys,k,A=>by
  simp only[ade,obF,acn]
  rw[Ir,show k+1+ys.length=k+(ys.length+1) from by omega]
theorem zF{p:Nat->Bool}:∀{ys:List Inx} {k n:Nat} {A:Laa},(∀j,p (k+j)=decide (j<n))->obF p k ys A=obF (λ_=>ζ) k (ys.take n) A
 |[],k,n,A,_=>by simp[obF]
 |y::ys,k,0,A,h=>by
  have h0:=h 0
  simp at h0
  simp only[obF,aeq,h0]
  have:=zF (p:=p) (ys:=ys) (k:=k+1) (n:=0) (A:=A) (λj=>by have:=h (j+1);grind)
  simpa [obF] using this
 |y::ys,k,n+1,A,h=>by
  have h0:=h 0
  simp at h0
  simp only[obF,ado,h0,if_true]
  exact zF (λj=>by grind)
def obX(base:St)(ys:List Inx):Laa:=obF (λ_=>ζ) 0 ys base.ob
theorem YM(base:St)(ys:List Inx)(y:Inx):obX base (ys++[y])=y.x.nw++(y.up++obX base ys):=by simp[obX,Ir]
def gr(ys:List Inx):List Inf:=ys.map (·.x)
def WK(P:Program)(N:Nat)(ops:Array Oper)(base:St)(pre:List Inx)(o:Oper)(y:Inx):Prop:=
 (∀z t,(z,t)∈y.x.needs->opT (wK base (gr pre)) z=t)/\(∀l ob,(l,ob)∈y.x.nob->go (obX base pre) l=ς ob)/\Xr N o y.x/\
 ((o.guard=ξ/\AWK P o y.x.needs y.x.nob y.x.out y.x.nw y.up y.kl)\/
  (∃j dj b ys,o.guard=ς (j,b)/\(ops[j]?).bind (·.dst)=ς dj/\dj<N/\y.x.needs=(.tmp dj,tB b)::ys/\AWK P o ys y.x.nob y.x.out y.x.nw y.up y.kl)\/
  (∃j dj b t,o.guard=ς (j,b)/\(ops[j]?).bind (·.dst)=ς dj/\dj<N/\y.x.needs=[(.tmp dj,t)]/\noG b t=ζ/\y.x.out= .tup []/\y.x.nw=[]/\y.up=[]/\y.kl=ξ))
theorem V0{ops:Array Oper}{base st1 st2:St}{ys:List Inx}{o:Oper}{y:Inx}(hds:DS2 P N ops o st st1 y)(hsame:A9 st1 st2)(h1:∀k,gt st.sl k=gt (wK base (gr ys)) k)(h2:st.ob=obX base ys)(h3:fh base.nx (gr ys) st.nx):
 WK P N ops base ys o y/\(∀k,gt st2.sl k=gt (wK base (gr (ys++[y]))) k)/\st2.ob=obX base (ys++[y])/\fh base.nx (gr (ys++[y])) st2.nx:=by
 have hput:∀(out:T) (nw up:Laa) (n:Nat),y.x.out=out->y.x.nw=nw->y.up=up->st1=⟨(y.x.d,out)::st.sl,nw++(up++st.ob),n⟩->Nw st.nx nw n->(∀k,gt st2.sl k=gt (wK base (gr (ys++[y]))) k)/\st2.ob=obX base (ys++[y])/\fh base.nx (gr (ys++[y])) st2.nx:=by
  rintro out nw up n rfl rfl rfl rfl hnw
  refine⟨λk=>?_,?_,?_⟩
  .rw[<-hsame.1 k];simp only[gr,adZ,adU,ad3];rw[A6]
   by_cases hk:y.x.d=k
   .rw[hk,da,da]
   rw[ck _ _ hk,ck _ _ hk];exact h1 k
  .rw[<-hsame.2.1,YM,h2]
  rw[<-hsame.2.2];simp only[gr,adZ,adU,ad3];exact h3.snoc hnw
 rcases hds with⟨hg,k1,k2,k4,k5,k6,k7⟩|⟨j,dj,b,z,hg,hj,hdj,hb,⟨k1,k2,k4,k5,k6,k7⟩,rfl⟩|⟨j,dj,b,d,hg,hj,hdj,hb,hd,hN,rfl,rfl⟩
 .exact⟨⟨λz t hm=>by rw[<-t6 h1];exact Lk.mem k4 z t hm,λl' ob hm=>by rw[<-h2];exact Lo.mem k5 l' ob hm,k2,.inl ⟨hg,k1⟩⟩,hput _ _ _ _ rfl rfl rfl k7 k6⟩
 .refine⟨⟨λy' t hm=>?_,λl' ob hm=>by rw[<-h2];exact Lo.mem k5 l' ob hm,k2,.inr (.inl ⟨j,dj,b,z.x.needs,hg,hj,hdj,rfl,k1⟩)⟩,hput _ _ _ _ rfl rfl rfl k7 k6⟩
  rw[<-t6 h1]
  rcases aa2.1 hm with e|hm
  .cases e;exact hb
  exact Lk.mem k4 y' t hm
 refine⟨⟨λy' t hm=>?_,by simp,.inl ⟨hd,hN⟩,.inr (.inr ⟨j,dj,b,_,hg,hj,hdj,rfl,hb,rfl,rfl,rfl,rfl⟩)⟩,hput (.tup []) [] [] st.nx rfl rfl rfl rfl rfl⟩
 rw[<-t6 h1]
 simp at hm;obtain⟨rfl,rfl⟩:=hm;rfl
def vI(y:Inx):List Nat:=y.x.nob.map (·.1)++(y.x.nw.map (·.1)++y.up.map (·.1))
def Gm(ops:Array Oper):Bool:=
 (f6 ops.size).all λi=>match ops[i]? with
  |some o=>o.after.toList.all λe=>!Region.binds .any e||nlt e.on i
  |none=>η
def jg(l:List Nat)(n:Nat):Bool:=l.any λk=>fW k n
def at0(seg:List Nat)(j:Nat):Nat:=seg.getD j 0
def EY(y:Inx)(d:Nat):Bool:=(y.x.needs.any λp=>p.2.has d)||jg (vI y) d||(y.x.nob.any λp=>p.2.hasO d)
def killOK(ops:Array Oper)(seg:List Nat)(ys:List Inx):Bool:=
 (f6 ys.length).all λj=>match ys[j]? with
  |some z=>match z.kl with
   |none=>ζ
   |some d=>(f6 ys.length).all λi=>match ys[i]? with
    |some y=>fW i j||!EY y d||anc ops ops.size (at0 seg j) (at0 seg i)
    |none=>η
  |none=>η
def Ab(ops:Array Oper)(done seg:List Nat)(ys:List Inx):Bool:=
 tm (gr ys)&&fW seg.length ys.length&&kh (seg++done)&&(seg.all λi=>nlt i ops.size)&&
 ((f6 ys.length).all λi=>match ys[i]? with
  |some y=>
   ((js y.x.needs).all λk=>match vT (gr ys) k with
    |none=>ζ
    |some j=>if nlt j i then anc ops ops.size (at0 seg i) (at0 seg j) else fW i j||anc ops ops.size (at0 seg j) (at0 seg i))&&
   ((vI y).all λl=>(f6 ys.length).all λj=>match ys[j]? with
    |some z=>!rj z l||(if nlt j i then anc ops ops.size (at0 seg i) (at0 seg j) else fW i j||anc ops ops.size (at0 seg j) (at0 seg i))
    |none=>η)
  |none=>η)&&
 ((f6 ops.size).all λj=>jg done j||jg seg j||seg.all λi=>anc ops ops.size j i)&&killOK ops seg ys
def Jx(f:Nat->Nat)(ys:List Inx)(listed:Array Bool)(d:Nat):Prop:=∃j y,listed.getD (f j) η=ζ/\ys[j]?=ς y/\y.kl=ς d
structure Ul(N:Nat)(cx:Cx)(base:St)(f:Nat->Nat)(ys:List Inx)(listed:Array Bool)(a:Act)(w:World)(E:Env):Prop where
 ok:dr cx E w
 dom:∀l x,E.r l=ς x->l<base.nx\/∃j y ob,listed.getD (f j) η=ζ/\ys[j]?=ς y/\(l,ob)∈y.x.nw
 obs:∀l ob,go (obF (λj=>listed.getD (f j) η) 0 ys base.ob) l=ς ob->(∀d,Jx f ys listed d->l≠d/\ob.hasO d=η)->cN E w l ob
 out:∀j y,listed.getD (f j) η=ζ->ys[j]?=ς y->(∀d,Jx f ys listed d->y.x.out.has d=η)->cvT E w y.x.out (a.tmps.getD y.x.d undef)
 old:∀k,(∀j y,listed.getD (f j) η=ζ->ys[j]?=ς y->y.x.d≠k)->(∀d,Jx f ys listed d->(gt base.sl k).has d=η)->cvT E w (gt base.sl k) (a.tmps.getD k undef)
 dfr:a.defers=[]
 size:a.tmps.size=N
 td:∀l b,E.T l b->l<base.nx\/∃j y ob,listed.getD (f j) η=ζ/\ys[j]?=ς y/\(l,ob)∈y.x.nw
theorem U0{y:Inx}(h:rj y l=ζ){X:Laa}{ob:Ob}(hg:go (y.x.nw++(y.up++X)) l=ς ob):(l,ob)∈y.x.nw\/(l,ob)∈y.up:=by
 by_cases hn:(y.x.nw.any λp=>fW p.1 l)=ζ
 .rw[AC hn] at hg;exact .inl (BL hg)
 have hu:(y.up.any λp=>fW p.1 l)=true:=by simp only[rj,adf] at h;exact h.resolve_left hn
 rw[CM (ad5.2 hn),AC hu] at hg;exact .inr (BL hg)
theorem Z4{y:Inx}{ob:Ob}(h:(l,ob)∈y.up):rj y l=true:=by
 simp only[rj,adf,adi]
 exact .inr ⟨(l,ob),h,by simp⟩
theorem RJ{y:Inx}(h:rj y l=ζ):l∈vI y:=by
 simp only[rj,adf,adi] at h
 simp only[vI,aau,adP]
 simp_all
section
variable{P:Program}{N:Nat}{cx:Cx}{ops:Array Oper}{base:St}{f:Nat->Nat}{ys:List Inx}{Q:Exit->Act->World->Prop}
def unl(ops:Array Oper)(listed:Array Bool):Nat:=((f6 ops.size).filter λi=>!listed.getD i η).length
def yO(ops:Array Oper)(listed:Array Bool):Prop:=∀i o,ops[i]?=ς o->listed.getD i η=ζ->∀e∈o.after,Region.binds .any e=ζ->listed.getD e.on η=ζ
theorem uw(hsz:listed.size=ops.size)(hio:i<ops.size)(hun:listed.getD i η=η):unl ops listed=unl ops (listed.setIfInBounds i ζ)+1:=by
 have hcount:∀(l:List Nat),l.Nodup->i∈l->(l.filter λk=>!listed.getD k η).length=(l.filter λk=>!(listed.setIfInBounds i ζ).getD k η).length+1:=by
  intro l
  induction l with
  |nil=>simp_all
  |cons k l ihl=>
   intro hnd hm
   obtain⟨hk1,hk2⟩:=adH.1 hnd
   by_cases hki:i=k
   .subst hki
    have hsame:(l.filter λk=>!listed.getD k η)=(l.filter λk=>!(listed.setIfInBounds i ζ).getD k η):=by
     apply aem
     intro z hz
     rw[cE oaa,if_neg (λe=>hk1 (by simp_all))]
    simp_all
   have hml:i∈l:=by rcases aa2.1 hm with e|e;exact absurd e hki;exact e
   have:=ihl hk2 hml
   have hgk:(listed.setIfInBounds i ζ).getD k η=listed.getD k false:=by rw[cE oaa,if_neg hki]
   grind
 exact hcount (f6 ops.size) aen (by simp_all)
theorem yT{o:Oper}(hsz:listed.size=ops.size)(hio:i<ops.size)(ho:ops[i]?=ς o)(hd:∀e∈o.after,Region.binds .any e=ζ->listed.getD e.on η=ζ)(hcl:yO ops listed):yO ops (listed.setIfInBounds i ζ):=by
 intro j oj hj hdj e he hb
 rw[cE oaa]
 split
 .rfl
 rw[cE oaa] at hdj
 split at hdj
 .simp_all
 exact hcl j oj hj hdj e he hb
def Edg(ops:Array Oper)(rk:Nat->Nat):Prop:=∀i o,ops[i]?=ς o->∀e∈o.after,Region.binds .any e=ζ->e.on<ops.size/\rk e.on<rk i
theorem Xw{ops:Array Oper}(hedge:∀i o,ops[i]?=ς o->∀e∈o.after,Region.binds .any e=ζ->e.on<i):Edg ops (λi=>i):=λi o ho e he hb=>by
 grind
theorem IG{rk:Nat->Nat}(hedge:Edg ops rk)(hsz:listed.size=ops.size)(hc:unl ops listed=n+1):Region.ready .any ops listed≠[]:=by
 intro h0
 have hex:∃i,i<ops.size/\listed.getD i η=false:=by
  have:((f6 ops.size).filter λi=>!listed.getD i η)≠[]:=λe=>by unfold unl at hc;grind
  obtain⟨i,hi⟩:=aej _ this
  simp only[List.mem_filter,List.mem_range,ac8] at hi
  exact⟨i,hi.1,hi.2⟩
 have hmin:∀n i,rk i<=n->i<ops.size->listed.getD i η=η->∃i,i∈Region.ready .any ops listed:=by
  intro n
  induction n using Nat.strongRecOn with
  |_ n ihn=>
   intro i hin his hif
   by_cases hd:∀e∈ops[i].after,Region.binds .any e=ζ->listed.getD e.on η=ζ
   .refine⟨i,mem_ready.2 ⟨?_,ops[i],adg his,hd⟩⟩
    simp_all
   simp only[Classical.not_forall] at hd
   obtain⟨e,he,hb,hne⟩:=hd
   have hlt:=hedge i ops[i] (adg his) e he hb
   exact ihn (rk e.on) oaa e.on (abk _) hlt.1 (by simp_all)
 obtain⟨i,h1,h2⟩:=hex
 obtain⟨j,hj⟩:=hmin (rk i) i (abk _) h1 h2
 simp_all
theorem mS(hsz:listed.size=ops.size)(hi:i∈Region.ready .any ops listed):i<ops.size/\listed.getD i η=η/\∃o,ops[i]?=ς o/\∀e∈o.after,Region.binds .any e=ζ->listed.getD e.on η=true:=by
 obtain⟨h1,o,ho,hd⟩:=mem_ready.1 hi
 grind
theorem BB(hcl:yO ops listed)(h:anc ops n i j=ζ)(hi:∃o,ops[i]?=ς o/\∀e∈o.after,Region.binds .any e=ζ->listed.getD e.on η=ζ):listed.getD j η=true:=th hcl n i j h hi
theorem Nm(hsz:listed.size=ops.size)(hcl:yO ops listed)(h:anc ops n i j=ζ)(hi:listed.getD i η=ζ):listed.getD j η=true:=by
 have his:i<ops.size:=by
  rcases ac9 i ops.size with h|h
  .exact h
  simp_all
 exact th hcl n i j h ⟨ops[i],adg his,hcl i _ (adg his) hi⟩
theorem Ty{o:Oper}{x:Inf}(h:Xr N o x)(hs:a.tmps.size=N)(v:Value):a.put o.dst v=a.put (ς x.d) v:=by
 rcases h with⟨h,_⟩|⟨h,h2,_⟩
 .rw[h]
 rw[h]
 show a=a.put (ς x.d) v
 unfold Act.put
 simp only
 rw[show a.tmps.setIfInBounds x.d v=a.tmps from Array.setIfInBounds_eq_of_size_le oaa]
theorem NU{d:Nat}{v:Value}(h:a.tmps.size<=d):(a.put (ς d) v).tmps.getD k undef=a.tmps.getD k undef:=by
 unfold Act.put
 grind
theorem UP(hI:Ul N cx base f ys listed a w E)(hdst:tm (gr ys)=ζ){y:Inx}(hx:ys[i]?=ς y)(hil:f i<listed.size)(hinj:∀j,j<ys.length->f i=f j->i=j)(hun:listed.getD (f i) η=η)(hdN:y.x.d<N\/(N<=y.x.d/\y.x.out= .any))(hord:∀l,rj y l=ζ->∀j z,ys[j]?=ς z->rj z l=ζ->listed.getD (f j) η=decide (j<i)){v:Value}(ok':dr cx E' w')(ext:ta y.up y.kl E w E' w')(hv:cvT E' w' y.x.out v)(hnw:∀l ob,(l,ob)∈y.x.nw->cN E' w' l ob)(hup:∀l ob,(l,ob)∈y.up->cN E' w' l ob)(hdom:∀l x,E'.r l=ς x->E.r l=ς x\/∃ob,(l,ob)∈y.x.nw):Ul N cx base f ys (listed.setIfInBounds (f i) ζ) (a.put (ς y.x.d) v) w' E':=by
 have hD:∀d,Jx f ys listed d->Jx f ys (listed.setIfInBounds (f i) ζ) d:=λd ⟨j,z,h1,h2,h3⟩=>⟨j,z,by
  rw[cE hil];simp_all,h2,h3⟩
 have hDi:∀d,y.kl=ς d->Jx f ys (listed.setIfInBounds (f i) ζ) d:=λd h=>⟨i,y,by simp_all,hx,h⟩
 have hgx:∀(j:Nat) (z:Inx),ys[j]?=ς z->(gr ys)[j]?=ς z.x:=λj z h=>by simp[gr,h]
 have hd':∀j z,ys[j]?=ς z->j≠i->z.x.d≠y.x.d:=λj z hj hne he=>hne (tp hdst j i z.x y.x (hgx j z hj) (hgx i y hx) he)
 have hlt:i<ys.length:=(f5.1 hx).1
 refine⟨ok',λl p hl=>?_,λl ob hl hdd=>?_,λj z hj hz hdd=>?_,λk hkk hdd=>?_,hI.dfr,by simpa [Act.put] using hI.size,λl b h=>?_⟩
 .rcases hdom l p hl with h|⟨ob,h⟩
  .rcases hI.dom l p h with h|⟨j,z,ob,h1,h2,h3⟩
   .exact .inl h
   refine .inr ⟨j,z,ob,?_,h2,h3⟩
   rw[cE hil];simp_all
  exact .inr ⟨i,y,ob,by simp_all,hx,h⟩
 .cases hto:rj y l with
  |true=>
   rw[s3 (q:=λj=>decide (j<i+1)) (B:=base.ob) rfl (λj z hz hj=>by
    simp only[aa5]
    rw[cE hil]
    grind),zF (n:=i+1) (λj=>by simp),List.take_add_one,hx] at hl
   simp only[Option.toList_some] at hl
   rw[Ir,if_pos rfl] at hl
   rcases U0 hto hl with h|h
   .simp_all
   simp_all
  |false=>
   rw[s3 (q:=λj=>listed.getD (f j) η) (B:=base.ob) rfl (λj z hz hj=>by
    simp only[aa5]
    rw[cE hil,if_neg]
    grind)] at hl
   refine Rg hI.ok ext (λob' hm=>?_) (λe=>(hdd l (hDi l e)).1 rfl) (λd hd=>(hdd d (hDi d hd)).2) (hI.obs l ob hl (λd hd=>hdd d (hD d hd)))
   rw[Z4 hm] at hto;cases hto
 .by_cases hji:i=j
  .subst hji;rw[hx] at hz;cases hz
   rcases hdN with hdN|⟨_,ho⟩
   .rw[ef (by rw[hI.size];exact hdN),if_pos rfl];exact hv
   rw[ho];trivial
  rw[cE hil,if_neg (λe=>hji (hinj j (f5.1 hz).1 e))] at hj
  rcases hdN with hdN|⟨hdN,_⟩
  .rw[ef (by rw[hI.size];exact hdN),if_neg (Ne.symm (hd' j z hz (Ne.symm hji)))]
   exact G7 hI.ok ext (λd hd=>hdd d (hDi d hd)) (hI.out j z hj hz (λd hd=>hdd d (hD d hd)))
  rw[NU (by rw[hI.size];exact hdN)]
  exact G7 hI.ok ext (λd hd=>hdd d (hDi d hd)) (hI.out j z hj hz (λd hd=>hdd d (hD d hd)))
 .have hxk:y.x.d≠k:=hkk i y (by simp_all) hx
  have hpp:(a.put (ς y.x.d) v).tmps.getD k undef=a.tmps.getD k undef:=by
   rcases hdN with hdN|⟨hdN,_⟩
   .rw[ef (by rw[hI.size];exact hdN),if_neg hxk]
   exact NU (by rw[hI.size];exact hdN)
  rw[hpp]
  refine G7 hI.ok ext (λd hd=>hdd d (hDi d hd)) (hI.old k (λj z hj hz=>hkk j z ?_ hz) (λd hd=>hdd d (hD d hd)))
  rw[cE hil];simp_all
 rcases ext.T' l b h with h|⟨h0,p,h⟩|⟨_,p,h⟩
 .rcases hI.td l b h with h|⟨j,z,ob,h1,h2,h3⟩
  .exact .inl h
  refine .inr ⟨j,z,ob,?_,h2,h3⟩
  rw[cE hil];simp_all
 .rcases hdom l p h with h|⟨ob,h⟩
  .rw[h0] at h;cases h
  exact .inr ⟨i,y,ob,by simp_all,hx,h⟩
 rcases hI.dom l p h with h|⟨j,z,ob,h1,h2,h3⟩
 .exact .inl h
 refine .inr ⟨j,z,ob,?_,h2,h3⟩
 rw[cE hil];simp_all
theorem Ld{done:Nat->Bool}{rk:Nat->Nat}(hedge:Edg ops rk)(hhi:∀i,i<ys.length->f i<ops.size)(hinj:∀i j,i<ys.length->j<ys.length->f i=f j->i=j)(hdis:∀i,i<ys.length->done (f i)=η){nmax:Nat}(hlab:fh base.nx (gr ys) nmax)(hdst:tm (gr ys)=ζ)(hslot:∀i y,ys[i]?=ς y->∀k∈js y.x.needs,∀j,vT (gr ys) k=ς j->if nlt j i then anc ops ops.size (f i) (f j)=ζ else(i=j\/anc ops ops.size (f j) (f i)=ζ))(hobj:∀i y,ys[i]?=ς y->∀l∈vI y,∀j z,ys[j]?=ς z->rj z l=ζ->if nlt j i then anc ops ops.size (f i) (f j)=ζ else(i=j\/anc ops ops.size (f j) (f i)=ζ))(hkill:∀j z d,ys[j]?=ς z->z.kl=ς d->∀i y,ys[i]?=ς y->i≠j->EY y d=ζ->anc ops ops.size (f j) (f i)=ζ)(htail:∀j,j<ops.size->done j=η->(∀i,i<ys.length->f i≠j)->∀i,i<ys.length->anc ops ops.size j (f i)=ζ)(htold:∀(i:Nat) (o:Oper) (y:Inx),ops[f i]?=ς o->ys[i]?=ς y->WK P N ops base (ys.take i) o y)(hfin:∀(listed:Array Bool) a w E,listed.size=ops.size->yO ops listed->(∀j,done j=ζ->listed.getD j η=ζ)->(∀i,i<ys.length->listed.getD (f i) η=ζ)->(∀j,done j=η->(∀i,i<ys.length->f i≠j)->listed.getD j η=η)->Ul N cx base f ys listed a w E->wpAny P .any ops Q (unl ops listed) listed a w):
 ∀(m:Nat) (listed:Array Bool) (a:Act) (w:World) (E:Env),((f6 ys.length).filter λi=>!listed.getD (f i) η).length=m->listed.size=ops.size->yO ops listed->
  (∀j,done j=ζ->listed.getD j η=ζ)->(∀j,done j=η->(∀i,i<ys.length->f i≠j)->listed.getD j η=η)->Ul N cx base f ys listed a w E->wpAny P .any ops Q (unl ops listed) listed a w:=by
 intro m
 induction m with
 |zero=>
  intro listed a w E hm hsz hcl hpre hpost hI
  refine hfin listed a w E hsz hcl hpre (λi hi=>?_) hpost hI
  have:=ael.1 (adn hm) i (by grind)
  grind
 |succ m ih=>
  intro listed a w E hm hsz hcl hpre hpost hI
  obtain⟨i0,hi0,hu0⟩:∃i,i<ys.length/\listed.getD (f i) η=false:=by
   have:((f6 ys.length).filter λi=>!listed.getD (f i) η)≠[]:=λe=>by grind
   obtain⟨i,hi⟩:=aej _ this
   grind
  have hus:=uw (ops:=ops) hsz (hhi i0 hi0) hu0
  rw[hus]
  refine⟨λh0=>absurd h0 (IG hedge hsz hus),λp hp=>?_⟩
  obtain⟨hio,hun,o,ho,hd⟩:=mS hsz hp
  have hdp:done p=false:=by
   cases h:done p with
   |false=>rfl
   |true=>grind
  obtain⟨i,hil,rfl⟩:∃i,i<ys.length/\p=f i:=by
   apply Classical.byContradiction
   intro hno
   have hno':∀i,i<ys.length->f i≠p:=λi hi e=>hno ⟨i,hi,e.symm⟩
   have:=BB hcl (htail p hio hdp hno' i0 hi0) ⟨o,ho,hd⟩
   grind
  obtain⟨y,hx⟩:∃y,ys[i]?=ς y:=⟨_,hV hil⟩
  have hus':unl ops (listed.setIfInBounds (f i0) ζ)=unl ops (listed.setIfInBounds (f i) ζ):=by
   have:=uw (ops:=ops) hsz hio hun;omega
  rw[hus']
  obtain⟨t1,t2,t3,t5⟩:=htold i o y ho hx
  have t4:y.x.d<N\/(N<=y.x.d/\y.x.out= .any):=t3.imp (·.2) (·.2)
  have hanc:∀j,anc ops ops.size (f i) (f j)=ζ->listed.getD (f j) η=true:=λj h=>BB hcl h ⟨o,ho,hd⟩
  have hanc':∀j,anc ops ops.size (f j) (f i)=ζ->listed.getD (f j) η=false:=λj h=>by
   cases hj:listed.getD (f j) η with
   |false=>rfl
   |true=>rw[Nm hsz hcl h hj] at hun;cases hun
  have hord:∀l∈vI y,∀j z,ys[j]?=ς z->rj z l=ζ->listed.getD (f j) η=decide (j<i):=by
   intro l hl j z hz hj
   have:=hobj i y hx l hl j z hz hj
   by_cases hji:j<i
   .rw[if_pos (by simp[nlt];omega)] at this
    grind
   rw[if_neg (by simp[nlt];omega)] at this
   grind
  have hsp:∀d,Jx f ys listed d->EY y d=false:=λd ⟨j,z,h1,h2,h3⟩=>by
   grind
  have hneeds:∀z t,(z,t)∈y.x.needs->cvT E w t (a.eval z):=by
   intro z t hm
   have hnt:∀d,Jx f ys listed d->t.has d=false:=λd hd=>by
    have:=hsp d hd
    simp only[EY,adc] at this
    grind
   have ht:=t1 z t hm
   cases z with
   |tmp k=>
    have hks:k∈js y.x.needs:=by
     have key:∀(l:List (Operand×T)),(Operand.tmp k,t)∈l->k∈js l:=by
      intro l
      induction l with
      |nil=>grind
      |cons p r ihl=>
       intro h
       rcases aa2.1 h with e|h
       .rw[<-e];simp[js]
       have h9:=ihl h;obtain⟨z,u⟩:=p;cases z<;>simp[js,h9]
     exact key _ hm
    show cvT E w t (a.tmps.getD k undef)
    have ht':gt (wK base (gr (ys.take i))) k=t:=ht
    have hit:gr (ys.take i)=(gr ys).take i:=by simp[gr,aeb]
    rw[hit] at ht'
    have hgx:∀(j:Nat) (z:Inf),(gr ys)[j]?=ς z->∃y',ys[j]?=ς y'/\y'.x=z:=λj z h=>by
     simp only[gr,List.getElem?_map,Option.map_eq_some_iff] at h;exact h
    cases hw:vT (gr ys) k with
    |none=>
     have hno:∀z∈gr ys,z.d≠k:=by
      intro z hz e
      have:=adJ.1 hw z hz
      rw[e] at this;simp at this
     rw[A5 _ _ (λz hz=>hno z (adk hz))] at ht'
     rw[<-ht']
     exact hI.old k (λj y' _ hy=>hno y'.x (adP.2 ⟨y',v0 hy,rfl⟩)) (λd hd=>by grind)
    |some j=>
     have hs:=hslot i y hx k hks j hw
     obtain⟨hjl,hjp,_⟩:=adF.1 hw
     have hjd:(gr ys)[j].d=k:=aat hjp
     obtain⟨yj,hyj,hyx⟩:=hgx j _ (hV hjl)
     have hju:∀j' z,(gr ys)[j']?=ς z->z.d=k->j'=j:=λj' z hy he=>tp hdst j' j z (gr ys)[j] hy (hV hjl) (by rw[he,hjd])
     by_cases hji:j<i
     .rw[if_pos (by simp[nlt];omega)] at hs
      have hdone:=hanc j hs
      have h9:=yi (base:=base) ((gr ys).take i) j (gr ys)[j] (by rw[adj,if_pos hji];exact hV hjl) (λj' z hy he=>hju j' z (by rw[adj] at hy;split at hy;exact hy;cases hy) (by rw[he,hjd]))
      rw[hjd] at h9
      have:=hI.out j yj hdone hyj (λd hd=>by rw[hyx,<-h9,ht'];exact hnt d hd)
      rw[hyx,hjd] at this
      grind
     rw[if_neg (by simp[nlt];omega)] at hs
     rw[A5 _ _ (λz hz e=>by
      obtain⟨j',hj'⟩:=ac7 hz
      rw[adj] at hj'
      split at hj'
      .rename_i hlt;have:=hju j' z hj' e;omega
      cases hj')] at ht'
     rw[<-ht']
     refine hI.old k (λj' y' hj' hy he=>?_) (λd hd=>by rw[ht'];exact hnt d hd)
     have hjj:=hju j' y'.x (by simp[gr,hy]) he
     subst hjj
     rcases hs with rfl|hs
     .grind
     rw[hanc' j' hs] at hj';cases hj'
   |const v=>have:=(show Rel N cx E ⟨[],[],base.nx⟩ a w->cvT E w (opT [] (.const v)) (a.eval (.const v)) from λh=>h.op _);rw[<-ht];cases v<;>simp only[opT,Act.eval,cvT,cvV]<;>first|exact Aw E w _|exact⟨_,rfl,vV E w _⟩|(simp only[cvC,gD,rdD])
   |func f=>rw[<-ht];rfl
   |global g=>rw[<-ht];trivial
  have hnob:∀l ob,(l,ob)∈y.x.nob->cN E w l ob:=by
   intro l ob hm
   have hgo:=t2 l ob hm
   refine hI.obs l ob ?_ (λd hd=>by
    have:=hsp d hd
    simp only[EY,adc] at this
    refine⟨λe=>?_,by grind⟩
    subst e
    have h9:jg (vI y) l=true:=adi.2 ⟨l,by simp only[vI,aau,adP];grind,by simp⟩
    grind)
   rw[<-hgo,obX,<-zF (p:=λj=>decide (j<i)) (k:=0) (n:=i) (λj=>by simp)]
   refine s3 rfl (λj z hz hj=>?_)
   rw[aa5]
   exact hord l (by simp only[vI,aau,adP];grind) j z hz hj
  have hgi:(gr ys)[i]?=ς y.x:=by simp[gr,hx]
  have hfresh:∀l ob,(l,ob)∈y.x.nw->E.r l=none:=by
   intro l ob hm
   cases hr:E.r l with
   |none=>rfl
   |some p=>
    have hlr:=(lJ hlab).2 i y.x l ob hgi hm
    rcases hI.dom l p hr with h|⟨j,z,ob',h1,h2,h3⟩
    .omega
    have:=(AG hlab i j y.x z.x l ob ob' hgi (by simp[gr,h2]) hm h3).1
    grind
  have hnext:∀v E' w',dr cx E' w'->ta y.up y.kl E w E' w'->cvT E' w' y.x.out v->(∀l ob,(l,ob)∈y.x.nw->cN E' w' l ob)->(∀l ob,(l,ob)∈y.up->cN E' w' l ob)->(∀l x,E'.r l=ς x->E.r l=ς x\/∃ob,(l,ob)∈y.x.nw)->
   wpAny P .any ops Q (unl ops (listed.setIfInBounds (f i) ζ)) (listed.setIfInBounds (f i) ζ) (a.put (ς y.x.d) v) w':=by
   intro v E' w' k1 k2 k3 k4 k4' k5
   refine ih _ _ _ E' ?_ (by grind) (yT hsz hio ho hd hcl) (λj hj=>?_) (λj hj hj'=>?_) (UP hI hdst hx oaa (λj hj e=>hinj i j hil hj e) hun t4 (λl hl=>hord l (RJ hl)) k1 k2 k3 k4 k4' k5)
   .have hcount:∀(l:List Nat),l.Nodup->(∀k∈l,k<ys.length)->i∈l->(l.filter λk=>!listed.getD (f k) η).length=(l.filter λk=>!(listed.setIfInBounds (f i) ζ).getD (f k) η).length+1:=by
     intro l
     induction l with
     |nil=>grind
     |cons k l ihl=>
      intro hnd hbd hm
      obtain⟨hk1,hk2⟩:=adH.1 hnd
      by_cases hki:i=k
      .subst hki
       have hsame:(l.filter λk=>!listed.getD (f k) η)=(l.filter λk=>!(listed.setIfInBounds (f i) ζ).getD (f k) η):=by
        apply aem
        intro z hz
        rw[cE oaa,if_neg (λe=>hk1 (by
         have:i=z:=hinj i z hil (hbd z (by simp[hz])) e
         grind))]
       rw[aed (by grind),aee (by rw[cE oaa,if_pos rfl];simp),hsame,acn]
      have hml:i∈l:=by rcases aa2.1 hm with e|e;exact absurd e hki;exact e
      have:=ihl hk2 (λz hz=>hbd z (by simp[hz])) hml
      have hgk:(listed.setIfInBounds (f i) ζ).getD (f k) η=listed.getD (f k) false:=by rw[cE oaa,if_neg (λe=>hki (hinj i k hil (hbd k (by simp)) e))]
      cases hgd:listed.getD (f k) η with
      |true=>rw[aee (by grind),aee (by grind)];exact this
      |false=>rw[aed (by grind),aed (by grind),acn,acn,this]
    have:=hcount (f6 ys.length) aen (λk hk=>by grind) (by grind)
    omega
   .rw[cE oaa];split
    .rfl
    grind
   rw[cE oaa,if_neg (hj' i hil)];exact hpost j hj hj'
  have hrun:∀needs,(∀z t,(z,t)∈needs->cvT E w t (a.eval z))->AWK P o needs y.x.nob y.x.out y.x.nw y.up y.kl->o.wp P a w (wpAny P .any ops Q (unl ops (listed.setIfInBounds (f i) ζ)) (listed.setIfInBounds (f i) ζ)) Q:=by
   intro needs hne hawn
   refine ux (λ_ _ _ h=>h.elim) (Oper.wp_mono ?_ (hawn cx E a w hI.ok hne hnob (λl ob hm=>⟨hfresh l ob hm,HU hlab i y.x l ob hgi hm⟩)))
   rintro a' w' ⟨v,E',rfl,k1,k2,k3,k4,k4',k5⟩
   rw[Ty t3 hI.size]
   exact hnext v E' w' k1 k2 k3 k4 k4' k5
  have hguard:∀j dj (b:Bool),(ops[j]?).bind (·.dst)=ς dj->dj<N->cvT E w (tB b) (a.eval (.tmp dj))->yielded ops a.tmps j=ς b:=by
   intro j dj b hj hdj hcv
   have hb:a.tmps.getD dj undef= .bool b:=by simpa [rdD,Act.eval] using vA hcv
   have hs:dj<a.tmps.size:=by rw[hI.size];exact hdj
   have h2:a.tmps[dj]?=ς (.bool b):=by
    rw[adg hs];simpa [Array.getD,hs] using hb
   unfold yielded
   cases ho':ops[j]? with
   |none=>simp[ho'] at hj
   |some o'=>simp[ho'] at hj;simp[hj,h2]
  unfold wpOp
  simp only[ho]
  rcases t5 with⟨hg,hawn⟩|⟨j,dj,b,zs,hg,hj,hdj,hnd,hawn⟩|⟨j,dj,b,t,hg,hj,hdj,hnd,hno,hout,hnw,hup,hkl⟩
  .rw[if_pos (by simp[Region.wanted,hg])]
   exact .inl (hrun _ hneeds hawn)
  .have hy:=hguard j dj b hj hdj (hneeds (.tmp dj) (tB b) (by rw[hnd];simp))
   rw[if_pos (by simp[Region.wanted,hg,hy])]
   exact .inl (hrun zs (λz t hm=>hneeds z t (by rw[hnd];exact .tail _ hm)) hawn)
  have hy:=Jt (N:=N) (ops:=ops) (hneeds (.tmp dj) t (by rw[hnd];simp)) (by rw[hI.size];exact hdj) hj hno
  rw[if_neg (by simp[Region.wanted,hg,hy]),Ty t3 hI.size]
  exact hnext undef E w hI.ok (by rw[hup,hkl];exact .of_extW (.of_ext (Ext.refl E w))) (by rw[hout];exact⟨#[],rfl,θ⟩) (by rw[hnw];simp) (by rw[hup];simp) (λ_ _ h=>.inl h)
end
def BO(P:Program)(N:Nat)(ops:Array Oper)(o:Oper)(st st':St):Prop:=
 (o.guard=ξ/\AWO P N o st st')\/(∃j dj b,o.guard=ς (j,b)/\(ops[j]?).bind (·.dst)=ς dj/\dj<N/\gt st.sl dj=tB b/\AWO P N o st st')
def G1(ops:Array Oper)(done:List Nat)(h:Nat):Bool:=!jg done h&&(f6 ops.size).all λj=>fW j h||jg done j||anc ops ops.size j h
def kls:List Inx->List Nat
 |[]=>[]
 |y::ys=>match y.kl with
  |some d=>d::kls ys
  |none=>kls ys
theorem Ti{d:Nat}:∀{ys:List Inx} {y:Inx},y∈ys->y.kl=ς d->d∈kls ys
 |z::zs,y,hm,hk=>by
  rcases aa2.1 hm with rfl|hm
  .simp[kls,hk]
  have:=Ti hm hk
  unfold kls
  grind
def Ng(ys:List Inx)(st s:St):Prop:=
 (∀k,gt s.sl k= .any\/(gt s.sl k=gt st.sl k/\∀d∈kls ys,(gt st.sl k).has d=η))/\(∀l x,go s.ob l=ς x->go st.ob l=ς x/\∀d∈kls ys,l≠d/\x.hasO d=η)/\s.nx=st.nx
theorem G5{ys:List Inx}(h:kls ys=[]):Ng ys st st:=by
 refine⟨λk=>.inr ⟨rfl,?_⟩,λl x hl=>⟨hl,?_⟩,rfl⟩<;>(simp_all)
theorem G4{ys:List Inx}{ds:List Nat}{ob:Laa}(h:kls ys=ds)(hk:HT ds sl ob=ς (sl',ob')):Ng ys ⟨sl,ob,nx⟩ ⟨sl',ob',nx⟩:=by
 obtain⟨h1,h2⟩:=Oh hk
 subst h
 exact⟨h1,h2,rfl⟩
def DZ(P:Program)(N:Nat)(ops:Array Oper):List (Nat×Oper)->List Nat->List Nat->List Inx->St->St->(St->Prop)->Prop
 |[],done,seg,ys,_,st,K=>Ab ops done seg ys=ζ/\∃s,Ng ys st s/\K s
 |(p,o)::r,done,seg,ys,base,st,K=>
  (∃y st1 st',DS2 P N ops o st st1 y/\A9 st1 st'/\DZ P N ops r done (seg++[p]) (ys++[y]) base st' K)\/
  (Ab ops done seg ys=ζ/\G1 ops (seg++done) p=ζ/\∃s st0 st1 st2,Ng ys st s/\cO N s st0/\BO P N ops o st0 st1/\cO N st1 st2/\DZ P N ops r (p::(seg++done)) [] [] st2 st2 K)
theorem gm{l:List Nat} :jg l n=ζ↔n∈l:=by
 simp only[jg,adi]
 simp_all
theorem rp{seg:List Nat}(h:j<seg.length):seg[j]?=ς (at0 seg j):=by
 unfold at0
 simp_all
section
variable{P:Program}{N:Nat}{cx:Cx}{ops:Array Oper}{base:St}{f:Nat->Nat}{done seg:List Nat}{ys:List Inx}{Q:Exit->Act->World->Prop}
theorem Pz(h:Ab ops done seg ys=ζ):tm (gr ys)=ζ/\seg.length=ys.length/\(seg++done).Nodup/\(∀i,i<ys.length->at0 seg i<ops.size)/\
 (∀i y,ys[i]?=ς y->∀k∈js y.x.needs,∀j,vT (gr ys) k=ς j->if nlt j i then anc ops ops.size (at0 seg i) (at0 seg j)=ζ else(i=j\/anc ops ops.size (at0 seg j) (at0 seg i)=ζ))/\
 (∀i y,ys[i]?=ς y->∀l∈vI y,∀j z,ys[j]?=ς z->rj z l=ζ->if nlt j i then anc ops ops.size (at0 seg i) (at0 seg j)=ζ else(i=j\/anc ops ops.size (at0 seg j) (at0 seg i)=ζ))/\
 (∀j,j<ops.size->jg done j=η->(∀i,i<ys.length->at0 seg i≠j)->∀i,i<ys.length->anc ops ops.size j (at0 seg i)=ζ)/\
 (∀j z d,ys[j]?=ς z->z.kl=ς d->∀i y,ys[i]?=ς y->i≠j->EY y d=ζ->anc ops ops.size (at0 seg j) (at0 seg i)=ζ):=by
 simp only[Ab,f4] at h
 obtain⟨⟨⟨⟨⟨⟨h1,h2⟩,h2'⟩,h2''⟩,h3⟩,h4⟩,h5⟩:=h
 have hlen:seg.length=ys.length:=aat h2
 have key:∀(i j:Nat),(if nlt j i then anc ops ops.size (at0 seg i) (at0 seg j) else fW i j||anc ops ops.size (at0 seg j) (at0 seg i))=ζ->if nlt j i then anc ops ops.size (at0 seg i) (at0 seg j)=ζ else(i=j\/anc ops ops.size (at0 seg j) (at0 seg i)=ζ):=by
  intro i j h
  split
  .simp_all
  simp_all
 refine⟨h1,hlen,jH h2',λi hi=>?_,λi y hy k hk j hj=>?_,λi y hy l hl j z hz ht=>?_,λj hj hd hs i hi=>?_,λj z d hz hd i y hy hij hs=>?_⟩
 .exact bV (aa4.1 h2'' (at0 seg i) (v0 (rp oaa)))
 .grind
 .grind
 .have:=aa4.1 h4 j (by simp_all)
  rw[adf,adf] at this
  rcases this with(h|h)|h
  .simp_all
  .obtain⟨n,hn⟩:=ac7 (gm.1 h)
   have hns:=(f5.1 hn).1
   have:=rp hns
   grind
  exact aa4.1 h (at0 seg i) (v0 (rp oaa))
 have hjl:=(f5.1 hz).1
 have hil:=(f5.1 hy).1
 have h6:=aa4.1 h5 j (by simp_all)
 simp only[hz,hd] at h6
 have h7:=aa4.1 h6 i (by grind)
 simp only[hy,hs,ad7,Bool.or_false,adf] at h7
 rcases h7 with h7|h7
 .exact absurd (aat h7) hij
 exact h7
theorem Oc(hI:Ul N cx base f ys listed a w E)(hdst:tm (gr ys)=ζ)(hdone:∀j,j<ys.length->listed.getD (f j) η=ζ)(h1:∀k,gt st.sl k=gt (wK base (gr ys)) k)(h2:st.ob=obX base ys)(h3:fh base.nx (gr ys) st.nx)(hC:Ng ys st s):Rel N cx E s a w:=by
 have hr:=lJ h3
 obtain⟨C1,C2,C3⟩:=hC
 have hDk:∀d,Jx f ys listed d->d∈kls ys:=λd ⟨j,y,_,hy,hk⟩=>Ti (v0 hy) hk
 refine⟨hI.ok,λl' x' hl=>?_,λl' ob hl=>?_,λk=>?_,hI.dfr,hI.size,λl' b' h'=>?_⟩
 .rw[C3];rcases hI.dom l' x' hl with h|⟨j,y,ob,_,h4,h5⟩
  .omega
  have:=hr.2 j y.x l' ob (by simp[gr,h4]) h5;omega
 .obtain⟨hl,hn⟩:=C2 l' ob hl
  refine hI.obs l' ob ?_ (λd hd=>hn d (hDk d hd))
  rw[<-hl,h2,obX]
  refine s3 rfl (λj z hz hj=>?_)
  grind
 .rcases C1 k with e|⟨e,hn⟩
  .rw[e];trivial
  rw[e]
  have hn':∀d,Jx f ys listed d->(gt st.sl k).has d=false:=λd hd=>hn d (hDk d hd)
  rw[h1 k] at hn' ⊢
  cases hw:vT (gr ys) k with
  |none=>
   have hno:∀z∈gr ys,z.d≠k:=by
    intro z hz e
    have:=adJ.1 hw z hz
    rw[e] at this;simp at this
   rw[A5 _ _ hno] at hn' ⊢
   exact hI.old k (λj y _ hy=>hno y.x (adP.2 ⟨y,v0 hy,rfl⟩)) hn'
  |some j=>
   obtain⟨hjl,hjp,_⟩:=adF.1 hw
   have hjd:(gr ys)[j].d=k:=aat hjp
   have hjl':j<ys.length:=by simpa [gr] using hjl
   have h5:(gr ys)[j]=(ys[j]).x:=by simp[gr]
   have h9:=yi (base:=base) (gr ys) j (gr ys)[j] (hV hjl) (λj' y hy he=>tp hdst j' j y (gr ys)[j] hy (hV hjl) he)
   rw[hjd] at h9
   have:=hI.out j ys[j] (hdone j hjl') (hV hjl') (λd hd=>by simp_all)
   simp_all
 rw[C3];rcases hI.td l' b' h' with h|⟨j,y,ob,_,h4,h5⟩
 .omega
 have:=hr.2 j y.x l' ob (by simp[gr,h4]) h5;omega
theorem Pg(hR:Rel N cx E base a w)(hl:∀j,j<ys.length->listed.getD (f j) η=η):Ul N cx base f ys listed a w E:=by
 refine⟨hR.ok,λl x h=>.inl (hR.dom l x h),λl ob h _=>?_,λj y h hy _=>?_,λk _ _=>hR.sl k,hR.dfr,hR.size,λl b h=>.inl (hR.td l b h)⟩
 .refine hR.obs l ob ?_
  rw[s3 (q:=λ_=>η) (B:=base.ob) rfl (λj z hz hj=>by grind)] at h
  rw[zF (n:=0) (λj=>by simp)] at h
  simpa [obF] using h
 grind
theorem OJ{l:List Nat}(h:l.Nodup):∀(i j:Nat) (x:Nat),l[i]?=ς x->l[j]?=ς x->i=j:=by
 intro i j x hi hj
 obtain⟨hi',e1⟩:=f5.1 hi
 obtain⟨hj',e2⟩:=f5.1 hj
 rcases aei i j with h'|h'|h'
 .exact absurd (e1.trans e2.symm) (adl.1 h i j hi' hj' h')
 .exact h'
 exact absurd (e2.trans e1.symm) (adl.1 h j i hj' hi' h')
theorem Xu{K:St->Prop}{rk:Nat->Nat}(hedge:Edg ops rk)(hQ:∀E st a w,Rel N cx E st a w->K st->Q .normal a w):
 ∀{l:List (Nat×Oper)} {done seg:List Nat} {ys:List Inx} {base st:St},DZ P N ops l done seg ys base st K->seg.length=ys.length->(∀q∈l,ops[q.1]?=ς q.2)->(∀j,j<ops.size->j∈seg\/j∈done\/∃q∈l,q.1=j)->
  (∀(i:Nat) (o:Oper) (y:Inx),ops[at0 seg i]?=ς o->ys[i]?=ς y->WK P N ops base (ys.take i) o y)->
  (∀k,gt st.sl k=gt (wK base (gr ys)) k)->st.ob=obX base ys->fh base.nx (gr ys) st.nx->
  ∀(listed:Array Bool) (a:Act) (w:World) (E:Env),listed.size=ops.size->yO ops listed->(∀j,listed.getD j η=jg done j)->Rel N cx E base a w->wpAny P .any ops Q (unl ops listed) listed a w:=by
 intro l
 induction l with
 |nil=>
  intro done seg ys base st hD hlen hops hcov htold h1 h2 h3 listed a w E hsz hcl hls hR
  obtain⟨hseg,s,hcl0,hK⟩:=hD
  obtain⟨c1,c1',c1'',c2,c3,c4,c5,c6⟩:=Pz hseg
  obtain⟨nd1,nd2,nd3⟩:=ad6.1 c1''
  have hnd:∀i,i<ys.length->jg done (at0 seg i)=false:=λi hi=>by
   rw[ad5];intro h
   exact nd3 _ (v0 (rp oaa)) _ (gm.1 h) rfl
  refine Ld (f:=at0 seg) (done:=jg done) hedge c2 (λi j hi hj e=>OJ nd1 i j _ (rp oaa) (by rw[e];exact rp oaa)) hnd h3 c1 c3 c4 c6 c5 htold (λlisted' a' w' E' hsz' hcl' hd' hs' hp' hI'=>?_) _ listed a w E rfl hsz hcl (λj hj=>by simp_all) (λj hj _=>by simp_all) (Pg hR (λj hj=>by grind))
  have hall:∀j,j<ops.size->listed'.getD j η=true:=λj hj=>by
   rcases hcov j hj with h|h|⟨q,hq,_⟩
   .obtain⟨i,hi⟩:=ac7 h
    have his:=(f5.1 hi).1
    have:=rp his;grind
   .exact hd' j (gm.2 h)
   cases hq
  have hu:unl ops listed'=0:=by
   unfold unl
   rw[aea,ael]
   intro j hj
   rw[hall j (by grind)]
   simp
  rw[hu]
  refine⟨?_,hQ E' s a' w' (Oc hI' c1 hs' h1 h2 h3 hcl0) hK⟩
  rw[List.eq_nil_iff_forall_not_mem]
  intro i hi
  obtain⟨k1,k2,_⟩:=mS hsz' hi
  grind
 |cons q r ih=>
  obtain⟨p,o⟩:=q
  intro done seg ys base st hD hlen hops hcov htold h1 h2 h3 listed a w E hsz hcl hls hR
  have hat:ops[p]?=ς o:=hops (p,o) (by simp)
  rcases hD with⟨y,st1,st',hds,hsame,hr⟩|⟨hseg,hbar,s,st0,st1,st2,hcl0,hw0,hbo,hw1,hr⟩
  .obtain⟨k1,k2,k3,k4⟩:=V0 hds hsame h1 h2 h3
   refine ih hr (by simp[hlen]) (λq hq=>hops q (by simp[hq])) (λj hj=>?_) (λi o' y' ho' hy'=>?_) k2 k3 k4 listed a w E hsz hcl hls hR
   .grind
   rcases ac9 i ys.length with h|h
   .rw[aa8 h] at hy'
    rw[List.take_append_of_le_length oaa]
    have e:at0 (seg++[p]) i=at0 seg i:=by unfold at0;rw[aek,aek,aa8 oaa]
    grind
   have hi:i=ys.length:=by
    have:=(f5.1 hy').1
    simp at this;omega
   subst hi
   simp at hy'
   subst hy'
   rw[List.take_left]
   have e:at0 (seg++[p]) ys.length=p:=by unfold at0;rw[aek,<-hlen];simp
   grind
  obtain⟨c1,c1',c1'',c2,c3,c4,c5,c6⟩:=Pz hseg
  obtain⟨nd1,nd2,nd3⟩:=ad6.1 c1''
  have hlt:p<ops.size:=by
   rcases ac9 p ops.size with h|h
   .exact h
   grind
  have hnd:∀i,i<ys.length->jg done (at0 seg i)=false:=λi hi=>by
   rw[ad5];intro h
   exact nd3 _ (v0 (rp oaa)) _ (gm.1 h) rfl
  refine Ld (f:=at0 seg) (done:=jg done) hedge c2 (λi j hi hj e=>OJ nd1 i j _ (rp oaa) (by rw[e];exact rp oaa)) hnd h3 c1 c3 c4 c6 c5 htold (λlisted' a' w' E' hsz' hcl' hd' hs' hp' hI'=>?_) _ listed a w E rfl hsz hcl (λj hj=>by grind) (λj hj _=>by grind) (Pg hR (λj hj=>by grind))
  have hseg':∀j,j∈seg->listed'.getD j η=true:=λj h=>by
   obtain⟨i,hi⟩:=ac7 h
   have his:=(f5.1 hi).1
   have:=rp his;grind
  have hls':∀j,listed'.getD j η=jg (seg++done) j:=λj=>by
   cases hm:jg (seg++done) j with
   |true=>
    rcases aau.1 (gm.1 hm) with h|h
    .grind
    exact hd' j (gm.2 h)
   |false=>
    have hn:j∉seg++done:=λh=>by rw[gm.2 h] at hm;cases hm
    refine hp' j ?_ (λi hi e=>hn ?_)
    .rw[ad5];intro h;exact hn (aau.2 (.inr (gm.1 h)))
    rw[<-e];exact aau.2 (.inl (v0 (rp oaa)))
  have hRel:=Oc hI' c1 hs' h1 h2 h3 hcl0
  simp only[G1,f4] at hbar
  obtain⟨hpd,hbar⟩:=hbar
  have hun:listed'.getD p η=false:=by rw[hls'];simpa using hpd
  have hus:=uw (ops:=ops) hsz' hlt hun
  rw[hus]
  refine⟨λh0=>absurd h0 (IG hedge hsz' hus),λq hq=>?_⟩
  obtain⟨hio,hunp,o',ho',hd⟩:=mS hsz' hq
  have hp:q=p:=by
   have hb:=aa4.1 hbar q (by grind)
   rw[adf,adf] at hb
   rcases hb with(hb|hb)|hb
   .exact aat hb
   .grind
   have:=BB hcl' hb ⟨o',ho',hd⟩
   grind
  subst hp
  rw[hat] at ho'
  cases ho'
  obtain⟨E0,hR0⟩:=hw0 cx E' a' w' hRel
  have hrun:∀(h:AWO P N o st0 st1),o.wp P a' w' (wpAny P .any ops Q (unl ops (listed'.setIfInBounds q ζ)) (listed'.setIfInBounds q ζ)) Q:=by
   intro h
   refine ux (λ_ _ _ h=>h.elim) (Oper.wp_mono ?_ (h cx E0 a' w' hR0))
   rintro a2 w2 ⟨E2,hR2⟩
   obtain⟨E3,hR3⟩:=hw1 cx E2 a2 w2 hR2
   refine ih hr rfl (λq hq=>hops q (by simp[hq])) (λj hj=>?_) (λi o' y' ho' hy'=>by simp at hy') (λk=>rfl) rfl rfl _ a2 w2 E3 (by grind) (yT hsz' hlt hat hd hcl') (λj=>?_) hR3
   .rcases hcov j hj with h|h|⟨z,hz,e⟩
    .grind
    .grind
    grind
   rw[cE oaa]
   split
   .rename_i h;subst h;symm;exact gm.2 (by simp)
   rename_i hne
   rw[hls' j]
   cases hm:jg (seg++done) j with
   |true=>symm;exact gm.2 (List.mem_cons_of_mem _ (gm.1 hm))
   |false=>
    symm;rw[ad5];intro h
    rcases aa2.1 (gm.1 h) with e|h
    .omega
    rw[gm.2 h] at hm;cases hm
  unfold wpOp
  simp only[hat]
  rcases hbo with⟨hg,hawo⟩|⟨j,dj,b,hg,hj,hdj,hb,hawo⟩
  .rw[if_pos (by simp[Region.wanted,hg])]
   grind
  have hy:=Js (ops:=ops) hR0 hj hdj hb
  rw[if_pos (by simp[Region.wanted,hg,hy])]
  grind
end
def Is(l:List Oper):List Nat->Option (List (Nat×Oper))
 |[]=>ς []
 |i::is=>match l[i]?,Is l is with
  |some o,ς r=>ς ((i,o)::r)
  |_,_=>ξ
def Ql(n:Nat)(is:List Nat):Bool:=(f6 n).all λj=>jg is j
theorem t7{l:List Oper}:∀{is:List Nat} {r:List (Nat×Oper)},Is l is=ς r->(∀q∈r,l[q.1]?=ς q.2)/\(∀j∈is,∃q∈r,q.1=j)
 |[],r,h=>by simp[Is] at h;subst h;simp
 |i::is,r,h=>by
  simp only[Is] at h
  split at h
  .rename_i o r' h1 h2
   simp at h;subst h
   obtain⟨k1,k2⟩:=t7 h2
   refine⟨λq hq=>?_,λj hj=>?_⟩
   .grind
   rcases aa2.1 hj with rfl|hj
   .simp_all
   simp_all
  cases h
theorem yQ{id:Nat}{l:List Oper}{AQ:Exit->St->Prop}(is:List Nat){r:List (Nat×Oper)}(hm:P.follows .mixedOrders=true:=by exact Try.follows)(he:Gm l.toArray=true:=by kernel_rfl)(hc:Ql l.length is=true:=by kernel_rfl)(ho:Is l is=ς r:=by exact rfl)(h:DZ P N l.toArray r [] [] [] st st (λs=>AQ .normal s)):AWC P N (.region id l.toArray ζ) st AQ:=by
 intro cx E a w hR
 refine wp_region_any hm ?_
 have hR':=Dz hR
 have hedge:∀i o,l.toArray[i]?=ς o->∀e∈o.after,Region.binds .any e=ζ->e.on<i:=by
  intro i o ho e hm hb
  have hi:i<l.toArray.size:=by
   rcases ac9 i l.toArray.size with h|h
   .exact h
   simp_all
  have:=aa4.1 he i (by simp_all)
  simp only[ho] at this
  have:=aa4.1 this e (by simp_all)
  simp only[hb,ad7,Bool.false_or] at this
  exact bV this
 have hfull:unl l.toArray (abw l.toArray.size η)=l.toArray.size:=by
  unfold unl
  rw[List.filter_eq_self.2]
  .simp
  simp_all
 have:=Xu (P:=P) (cx:=cx) (Q:=H4 N cx AQ) (Xw hedge) (λE st a w hR hK=>⟨E,st,hR,hK⟩) h rfl (λq hq=>by have:=(t7 ho).1 q hq;simp_all) (λj hj=>by
  have hj':j<l.length:=by simpa using hj
  have:=aa4.1 hc j (by simp_all)
  exact .inr (.inr ((t7 ho).2 j (gm.1 this)))) (λi o y _ hy=>by simp at hy) (λk=>rfl) rfl rfl (abw l.toArray.size η) a _ E (by simp) (λi o ho hd=>by rw[iS] at hd;cases hd) (λj=>by rw[iS];simp[jg]) hR'
 simp_all
section
variable{P:Program}{N:Nat}{ops:Array Oper}{l:List (Nat×Oper)}{o:Oper}{st st' base:St}{x:Inf}{y:Inx}{K:St->Prop}{ys:List Inx}{dn seg:List Nat}{p:Nat}
theorem Xt(hs:Ab ops dn seg ys=ζ)(hk:kls ys=[])(h:K st):DZ P N ops [] dn seg ys base st K:=⟨hs,st,G5 hk,h⟩
theorem sb{ds:List Nat}{ob:Laa}(hs:Ab ops dn seg ys=ζ)(hk:kls ys=ds)(hA:HT ds sl ob=ς (sl',ob'))(h:K ⟨sl',ob',nx⟩):DZ P N ops [] dn seg ys base ⟨sl,ob,nx⟩ K:=⟨hs,_,G4 hk hA,h⟩
theorem Bb(hg:o.guard=ξ)(h:NS P N o st st' x)(h':DZ P N ops l dn (seg++[p]) (ys++[⟨x,[],ξ⟩]) base st' K):DZ P N ops ((p,o)::l) dn seg ys base st K:=.inl ⟨_,st',st',.inl ⟨hg,OL h⟩,.refl _,h'⟩
theorem Xs{dj:Tmp}{b:Bool}(hg:o.guard=ς (j,b))(hj:(ops[j]?).bind (·.dst)=ς dj)(hdj:nlt dj N=ζ)(hb:gt st.sl dj=tB b)(h:NS P N o st st' x)(h':DZ P N ops l dn (seg++[p]) (ys++[⟨{x with needs:=(.tmp dj,tB b)::x.needs},[],ξ⟩]) base st' K):DZ P N ops ((p,o)::l) dn seg ys base st K:=.inl ⟨_,st',st',.inr (.inl ⟨j,dj,b,_,hg,hj,bV hdj,hb,OL h,rfl⟩),.refl _,h'⟩
theorem Ed(hg:o.guard=ξ)(h:NX P N o st st' y)(h':DZ P N ops l dn (seg++[p]) (ys++[y]) base st' K):DZ P N ops ((p,o)::l) dn seg ys base st K:=.inl ⟨_,st',st',.inl ⟨hg,h⟩,.refl _,h'⟩
theorem abi{dj d:Tmp}{b:Bool}(hg:o.guard=ς (j,b))(hj:(ops[j]?).bind (·.dst)=ς dj){t:T}(hdj:nlt dj N=ζ)(ht:gt st.sl dj=t)(hb:noG b t=ζ)(hd:o.dst=ς d)(hN:nlt d N=ζ)(h':DZ P N ops l dn (seg++[p]) (ys++[⟨⟨d,[(.tmp dj,t)],[],.tup [],[]⟩,[],ξ⟩]) base ⟨(d,.tup [])::st.sl,st.ob,st.nx⟩ K):DZ P N ops ((p,o)::l) dn seg ys base st K:=
 .inl ⟨_,_,_,.inr (.inr ⟨j,dj,b,d,hg,hj,bV hdj,by simp_all,hd,bV hN,by rw[ht],rfl⟩),.refl _,h'⟩
theorem tj{st0 st1:St}(hg:o.guard=ξ)(h:AWO P N o st0 st1):BO P N ops o st0 st1:=.inl ⟨hg,h⟩
theorem dH:cO N s s:=λ_ E _ _ h=>⟨E,h⟩
theorem dz_bar{st0 st1 st2:St}(hs:Ab ops dn seg ys=ζ)(hkl:kls ys=[])(hb:G1 ops (seg++dn) p=ζ)(hw:cO N st st0)(h:BO P N ops o st0 st1)(hw2:cO N st1 st2){dn':List Nat}(hlo:p::(seg++dn)=dn')(h':DZ P N ops l dn' [] [] st2 st2 K):DZ P N ops ((p,o)::l) dn seg ys base st K:=by
 subst hlo
 exact .inr ⟨hs,hb,st,st0,st1,st2,G5 hkl,hw,h,hw2,h'⟩
theorem LC{K K':St->Prop}(hk:∀s,K s->K' s):∀{l:List (Nat×Oper)} {dn seg:List Nat} {ys:List Inx} {base st:St},DZ P N ops l dn seg ys base st K->DZ P N ops l dn seg ys base st K'
 |[],_,_,_,_,_,h=>by obtain⟨h1,s,h2,h3⟩:=h;exact⟨h1,s,h2,hk _ h3⟩
 |(p,o)::l,_,_,_,_,_,h=>by
  rcases h with⟨y,st1,st',h1,h2,h3⟩|⟨h1,h2,s,st0,st1,st2,h0,h3,h4,h5,h6⟩
  .exact .inl ⟨y,st1,st',h1,h2,LC hk h3⟩
  exact .inr ⟨h1,h2,s,st0,st1,st2,h0,h3,h4,h5,LC hk h6⟩
theorem abh(M:St)[c:Jw N K](h1:DZ P N ops l dn seg ys base st (λs=>cO N s M))(h2:K M):DZ P N ops l dn seg ys base st K:=LC (λs h=>c.h _ _ h h2) h1
end
section
variable{P:Program}{N:Nat}{ops:Array Oper}{l:List (Nat×Oper)}{o:Oper}{sl:Lab}{ob:Laa}{nx:Nat}{base:St}{K:St->Prop}{ys:List Inx}{dn seg:List Nat}{p:Nat}
theorem zgs{dj d:Tmp}{b:Bool}{t:T}(hg:o.guard=ς (j,b))(hj:(ops[j]?).bind (·.dst)=ς dj)(hdj:nlt dj N=ζ)(ht:gt sl dj=t)(hb:noG b t=ζ)(hd:o.dst=ς d)(hN:nlt d N=ζ)(h':DZ P N ops l dn (seg++[p]) (ys++[⟨⟨d,[(.tmp dj,t)],[],.tup [],[]⟩,[],ξ⟩]) base ⟨(d,.tup [])::sl,ob,nx⟩ K):DZ P N ops ((p,o)::l) dn seg ys base ⟨sl,ob,nx⟩ K:=abi (st:=⟨sl,ob,nx⟩) hg hj hdj ht hb hd hN h'
theorem cwx{d:Tmp}{gd:Option (Nat×Bool)}{o:Nat}{x0 x1:Ob}{eqs:Lac}{nw:Laa}(hF:FnW P f x1 ts' y res)(ht:pH sl args=ς ts:=by exact rfl)(ho:go ob o=ς x0:=by exact rfl)(hl:x0.loc=x1:=by exact rfl)(hfx:x0.free=true:=by exact rfl)(hfy:y.free=true:=by exact rfl)(ha:Bv [] o ts=ς (ts',eqs):=by exact rfl)(he:Eqs eqs:=by repeat (first|exact θ|refine⟨by first|rfl|exact lm _|simp,?_⟩))(hi:BT nx res=ς (out,nw,n):=by exact rfl)(hw:EA nx nw n=true:=by exact rfl)(hN:nlt d N=true:=by exact rfl)(hob:apO nw ((o,y)::ob)=ς ob':=by exact rfl):
 NX P N ⟨ς d,.call ⟨.value (.func f),args.toArray,tys⟩,ty,ps,af,gd⟩ ⟨sl,ob,nx⟩ ⟨(d,out)::sl,ob',n⟩ ⟨⟨d,args.zip ts,[(o,x0)],out,nw⟩,[(o,y)],ξ⟩:=by
 subst hl
 rw[ti hob]
 obtain⟨t1,t2⟩:=nC ht
 exact⟨wW (Us hF t1 hfx hfy ha he hi),.inl ⟨rfl,bV hN⟩,t2,⟨ho,θ⟩,Dk hw,rfl⟩
theorem LF{o c:Nat}{cs:Array Value}(ok:dr cx E w)(hr:E.r o=ς (b,c))(hF:¬E.F b):dr cx E (w.setRow b cs):=by
 have hsz:(w.setRow b cs).heap.size=w.heap.size:=by simp
 refine⟨λk hk=>by rw[hsz];exact ok.fb k hk,ok.gf,ok.gn,λo b c h=>by rw[hsz];exact ok.rb o b c h,ok.inj,ok.os,ok.tape,ok.output,by rw[hsz];exact ok.size,λk hk hW=>?_,ok.pin,ok.ff,λk hg hk'=>(ok.gc k hg hk').of_eq (dP w b k cs (λe=>hF (by simp_all))),ok.sf.setRow hr⟩
 rw[dP _ _ _ _ (λe=>by
  subst e
  rcases ok.rw hr with h|h
  .omega
  simp_all)]
 exact ok.block k hk hW
theorem NN{o c:Nat}{cs:Array Value}{ob':Ob}(ok:dr cx E w)(hr:E.r o=ς (b,c))(hF:¬E.F b):WE [(o,ob')] E w E (w.setRow b cs):=by
 refine⟨λ_ _ h=>h,λ_ h=>h,λ_ h=>h,λ_ h=>.inl h,λk hk hne=>dP w b k cs (λe=>?_),λl ob k c' hm h=>?_,λ_ _ h=>h,λ_ _ h=>.inl h,rfl,rfl⟩
 .simp_all
 simp_all
theorem spx{gd:Option (Nat×Bool)}{x y:Operand}{o:Nat}{vt:TypeId}{cs' ns:List C}(q:Nat)(hq:abD N q=true:=by exact rfl)[ht:TyN P t n](hx:opT sl x= .v (.c (.p o k)):=by exact rfl)(hy:opT sl y= .v v:=by exact rfl)(ho:go ob o=ς (.var vt cs):=by exact rfl)(hv:vcs v=ς ns:=by exact rfl)(hn:fW ns.length n=true:=by exact rfl)(hst:ns.all C.sto=true:=by exact rfl)(hs:mI k ns cs=ς cs':=by exact rfl):
 NX P N ⟨ξ,.store t x y,ty,ps,af,gd⟩ ⟨sl,ob,nx⟩ ⟨(q,.any)::sl,(o,.var vt cs')::ob,nx⟩ ⟨⟨q,[(x,.v (.c (.p o k))),(y,.v v)],[(o,.var vt cs)],.any,[]⟩,[(o,.var vt cs')],ξ⟩:=by
 refine⟨wW ?_,.inr ⟨rfl,adp hq,rfl⟩,⟨hx,hy,θ⟩,⟨ho,θ⟩,rfl,rfl⟩
 intro cx E a w ok hne hnob hfr
 have h1:cvT E w (.v (.c (.p o k))) (a.eval x):=hne x _ (.head _)
 have h2:cvT E w (.v v) (a.eval y):=hne y _ (.tail _ (.head _))
 obtain⟨b,c,hr,hu⟩:=h1
 have h3:cN E w o (.var vt cs):=hnob o _ (.head _)
 obtain⟨b',c',arr,hr',hh,hcv,hF⟩:=h3
 rw[hr] at hr';cases hr'
 have hvc:=M5 hv h2
 have hl1:=jt hvc
 have hl2:=jt hcv
 have hnn:=aat hn
 have hle:=(qH hs).2
 have hsz:(a.eval y).cells.size=n:=by simp at hl1;omega
 have hrun:=vu (P:=P) (t:=t) (n:=n) (k:=k) hsz (WC hv hst h2) hh (by simp_all)
 unfold Oper.wp
 simp only[execOp,hu,Sem.run_bind,hrun,Result.andThen_ok,Sem.run_pure,Oper.upon_skip,Act.put]
 have hk:=mc (cs:=(arr.toList.take k++(a.eval y).cells.toList++arr.toList.drop (k+n)).toArray) (w:=w) ok hr hF
 refine⟨undef,E,θ,LF ok hr hF,?_,θ,(λ_ _ h=>by cases h),λl ob' hm=>?_,λl p h=>.inl h⟩
 .exact NN ok hr hF
 simp at hm;obtain⟨rfl,rfl⟩:=hm
 refine⟨b,c,_,hr,g8 _ hh,?_,hF⟩
 refine s9 hk (D2 hs hvc hcv ?_ λi=>?_)
 .grind
 rw[show(arr.toList.take k++(a.eval y).cells.toList++arr.toList.drop (k+n)).toArray.toList=arr.toList.take k++(a.eval y).cells.toList++arr.toList.drop (k+n) from rfl]
 exact mW oaa oaa i
end
def sw(p q l:Nat):Nat:=bif fW l p then q else bif fW l q then p else l
theorem Qi(a b:Nat):fW a b=decide (a=b):=by
 by_cases h:a=b
 .subst h;simp
 rw[gQ h];simp[h]
theorem Jg(p q l:Nat):sw p q (sw p q l)=l:=by
 unfold sw
 simp only[Qi]
 grind
theorem sw_inj{a:Nat}(h:sw p q a=sw p q b):a=b:=by rw[<-Jg p q a,h,Jg]
theorem ZV(hp:rsv p=η)(hq:rsv q=η)(l:Nat):(rsv l=ζ->sw p q l=l)/\(rsv (sw p q l)=ζ->sw p q l=l):=by
 unfold sw
 simp only[Qi]
 grind
theorem sw_lt(hp:p<n)(hq:q<n)(h:sw p q l<n):l<n:=by
 rw[<-Jg p q l]
 generalize sw p q l=m at h
 unfold sw
 grind
def swC(p q:Nat):C->C
 | .w o n=>.w (sw p q o) n
 | .wn o n=>.wn (sw p q o) n
 | .s o a b c=>.s (sw p q o) a b c
 | .p o k=>.p (sw p q o) k
 | .e o a b c=>.e (sw p q o) a b c
 |c=>c
def swCs(p q:Nat):List C->List C
 |[]=>[]
 |c::cs=>swC p q c::swCs p q cs
def swV(p q:Nat):V->V
 | .c c=>.c (swC p q c)
 | .agg cs=>.agg (swCs p q cs)
def swVs(p q:Nat):List V->List V
 |[]=>[]
 |c::cs=>swV p q c::swVs p q cs
def swT(p q:Nat):T->T
 | .v v=>.v (swV p q v)
 | .tup vs=>.tup (swVs p q vs)
 | .any=>.any
def swOb(p q:Nat):Ob->Ob
 | .var t cs=>.var t (swCs p q cs)
 |o=>o
def swS(p q:Nat):Lab->Lab
 |[]=>[]
 |(k,t)::r=>(k,swT p q t)::swS p q r
def swO(p q:Nat):Laa->Laa
 |[]=>[]
 |(k,t)::r=>(sw p q k,swOb p q t)::swO p q r
def Env.sw(E:Env)(p q:Nat):Env:={E with r:=λl=>E.r (AM.sw p q l),n:=λl=>E.n (AM.sw p q l)}
theorem ZT{c:C}(h:cvC E w c u):cvC (E.sw p q) w (swC p q c) u:=by
 have e:∀o,(E.sw p q).r (sw p q o)=E.r o:=λo=>by simp[Env.sw,Jg]
 cases c with
 |w o n=>obtain⟨b,c,h1,h2⟩:=h;exact⟨b,c,(e o).trans h1,h2⟩
 |wn o n=>
  have e2:(E.sw p q).n (sw p q o)=E.n o:=by simp[Env.sw,Jg]
  rcases h with⟨h1,h2⟩|⟨h0,b,c,h1,h2⟩
  .exact .inl ⟨by simp_all,h2⟩
  exact .inr ⟨by simp_all,b,c,(e o).trans h1,h2⟩
 |s o a b c=>obtain⟨A,c',b',k,h1,h2⟩:=h;exact⟨A,c',b',k,(e o).trans h1,h2⟩
 |p o k=>obtain⟨b,c,h1,h2⟩:=h;exact⟨b,c,(e o).trans h1,h2⟩
 |e o a b c=>obtain⟨b',c',h1,h2⟩:=h;exact⟨b',c',(e o).trans h1,h2⟩
 |_=>exact h
theorem MZ{E:Env}{w:World}{p q:Nat}:∀{cs:List C} {us:Lae},CV E w cs us->CV (E.sw p q) w (swCs p q cs) us
 |[],[],h=>h
 |[],_::_,h=>h.elim
 |_::_,[],h=>h.elim
 |_::_,_::_,h=>⟨ZT h.1,MZ h.2⟩
theorem ZU{c:V}(h:cvV E w c u):cvV (E.sw p q) w (swV p q c) u:=by
 cases c with
 |c c=>exact ZT h
 |agg cs=>obtain⟨arr,h1,h2⟩:=h;exact⟨arr,h1,MZ h2⟩
theorem T6{E:Env}{w:World}{p q:Nat}:∀{cs:List V} {us:Lae},VV E w cs us->VV (E.sw p q) w (swVs p q cs) us
 |[],[],h=>h
 |[],_::_,h=>h.elim
 |_::_,[],h=>h.elim
 |_::_,_::_,h=>⟨ZU h.1,T6 h.2⟩
theorem swT_ok{t:T}(h:cvT E w t u):cvT (E.sw p q) w (swT p q t) u:=by
 cases t with
 |v v=>exact ZU h
 |tup vs=>obtain⟨arr,h1,h2⟩:=h;exact⟨arr,h1,T6 h2⟩
 |any=>trivial
theorem acS{o:Nat}{ob:Ob}(h:cN E w (sw p q o) ob):cN (E.sw p q) w o (swOb p q ob):=by
 cases ob with
 |var t cs=>obtain⟨b,c,arr,h1,h2,h3,h4⟩:=h;exact⟨b,c,arr,h1,h2,MZ h3,h4⟩
 |row t sz els g m=>exact h
 |rown t sz els g=>exact h
 |abs l y=>exact h
theorem XQ{p q:Nat}:∀(sl:Lab) (k:Nat),gt (swS p q sl) k=swT p q (gt sl k)
 |[],k=>rfl
 |(j,t)::r,k=>by
  simp only[swS,gt]
  cases fW j k
  .exact XQ r k
  rfl
theorem XP{p q:Nat}:∀(ob:Laa) (o:Nat),go (swO p q ob) o=(go ob (sw p q o)).map (swOb p q)
 |[],o=>rfl
 |(j,t)::r,o=>by
  simp only[swO,go,Qi]
  by_cases h:j=sw p q o
  .subst h;simp[Jg]
  have h2:sw p q j≠o:=λe=>h (by rw[<-e,Jg])
  simp only[h,h2,decide_false,cond_false]
  exact XP r o
theorem PQ{ob:Laa}(hp:rsv p=false:=by exact rfl)(hq:rsv q=false:=by exact rfl)(hpn:nlt p nx=true:=by exact rfl)(hqn:nlt q nx=true:=by exact rfl):cO N ⟨sl,ob,nx⟩ ⟨swS p q sl,swO p q ob,nx⟩:=by
 intro cx E a w hR
 have ok:=hR.ok
 refine⟨E.sw p q,⟨ok.fb,ok.gf,ok.gn,λo b c h=>?_,λo o' b c c' h h'=>sw_inj (ok.inj _ _ _ _ _ h h'),ok.os,ok.tape,ok.output,ok.size,ok.block,λo x hr h=>?_,ok.ff,ok.gc,?_⟩,λo x h=>sw_lt (bV hpn) (bV hqn) (hR.dom _ x h),λo ob' h=>?_,λk=>?_,hR.dfr,hR.size,hR.td⟩
 .obtain⟨h1,h2⟩:=ok.rb _ b c h
  refine⟨h1,h2.imp id λh3=>⟨h3.1,?_⟩⟩
  have:=(ZV hp hq o).2 h3.2
  simp_all
 .have h':E.r (sw p q o)=ς x:=h
  rw[(ZV hp hq o).1 (GF hr)] at h'
  exact ok.pin o x hr h'
 .have sf:=ok.sf
  exact⟨λl b h=>⟨(sf.tb l b h).1,(sf.tb l b h).2.1,λo c=>(sf.tb l b h).2.2.1 _ c,(sf.tb l b h).2.2.2⟩,sf.tt,λb h=>⟨(sf.zc b h).1,(sf.zc b h).2.1,λo c=>(sf.zc b h).2.2.1 _ c,(sf.zc b h).2.2.2⟩,sf.zs,sf.ze⟩
 .rw[XP] at h
  cases hg:go ob (sw p q o) with
  |none=>simp_all
  |some x=>rw[hg] at h;cases h;exact acS (hR.obs _ x hg)
 rw[XQ];exact swT_ok (hR.sl k)
def wnC(o n:Nat):C->C
 | .w k m=>bif fW k o then .w k n else .w k m
 | .wn k m=>bif fW k o then .wn k n else .wn k m
 |c=>c
def wnEC(o n:Nat):C->Lac
 | .w k m=>bif fW k o then [(m,n)] else []
 | .wn k m=>bif fW k o then [(m,n)] else []
 |_=>[]
def wnCs(o n:Nat):List C->List C
 |[]=>[]
 |c::cs=>wnC o n c::wnCs o n cs
def PS(o n:Nat):List C->Lac
 |[]=>[]
 |c::cs=>wnEC o n c++PS o n cs
def wnT(o n:Nat):T->T
 | .v (.c c)=>.v (.c (wnC o n c))
 | .v (.agg cs)=>.v (.agg (wnCs o n cs))
 |t=>t
def wnET(o n:Nat):T->Lac
 | .v (.c c)=>wnEC o n c
 | .v (.agg cs)=>PS o n cs
 |_=>[]
def wnS(o n:Nat):Lab->Lab
 |[]=>[]
 |(k,t)::r=>(k,wnT o n t)::wnS o n r
def RS(o n:Nat):Lab->Lac
 |[]=>[]
 |(_,t)::r=>wnET o n t++RS o n r
def wnO(o n:Nat):Laa->Laa
 |[]=>[]
 |(k,.var t cs)::r=>(k,.var t (wnCs o n cs))::wnO o n r
 |p::r=>p::wnO o n r
def PT(o n:Nat):Laa->Lac
 |[]=>[]
 |(_,.var _ cs)::r=>PS o n cs++PT o n r
 |_::r=>PT o n r
theorem aas{o:Nat}{c:C}(he:Eqs (wnEC o n c))(h:cvC E w c u):cvC E w (wnC o n c) u:=by
 cases c with
 |w k m=>
  simp only[wnC,wnEC] at he ⊢
  cases hk:fW k o with
  |false=>exact h
  |true=>rw[hk] at he;have:m=n:=he.1;simp_all
 |wn k m=>
  simp only[wnC,wnEC] at he ⊢
  cases hk:fW k o with
  |false=>exact h
  |true=>rw[hk] at he;have:m=n:=he.1;simp_all
 |_=>exact h
theorem M8{E:Env}{w:World}{o n:Nat}:∀{cs:List C} {us:Lae},Eqs (PS o n cs)->CV E w cs us->CV E w (wnCs o n cs) us
 |[],[],_,h=>h
 |[],_::_,_,h=>h.elim
 |_::_,[],_,h=>h.elim
 |_::_,_::_,he,h=>by obtain⟨h1,h2⟩:=dE he;exact⟨aas h1 h.1,M8 h2 h.2⟩
theorem wnT_ok{o:Nat}{t:T}(he:Eqs (wnET o n t))(h:cvT E w t u):cvT E w (wnT o n t) u:=by
 cases t with
 |v v=>
  cases v with
  |c c=>exact aas he h
  |agg cs=>obtain⟨arr,h1,h2⟩:=h;exact⟨arr,h1,M8 he h2⟩
 |_=>exact h
theorem aaq{o:Nat}{ob:Laa}(he:Eqs (RS o n sl))(he2:Eqs (PT o n ob)):cO N ⟨sl,ob,nx⟩ ⟨wnS o n sl,wnO o n ob,nx⟩:=by
 intro cx E a w hR
 refine⟨E,hR.ok,hR.dom,λp x h=>?_,λk=>?_,hR.dfr,hR.size,hR.td⟩
 .have key:∀(ob:Laa) (x:Ob),Eqs (PT o n ob)->go (wnO o n ob) p=ς x->∃y,go ob p=ς y/\(cN E w p y->cN E w p x):=by
   intro ob
   induction ob with
   |nil=>intro x _ h;cases h
   |cons q r ih=>
    intro x he h
    obtain⟨k,v⟩:=q
    cases v with
    |var t cs=>
     obtain⟨h1,h2⟩:=dE (show Eqs (PS o n cs++PT o n r) from he)
     simp only[wnO,go] at h ⊢
     cases hk:fW k p with
     |false=>simp_all
     |true=>
      rw[hk] at h
      cases h
      exact⟨_,rfl,λ⟨b,c,arr,k1,k2,k3,k4⟩=>⟨b,c,arr,k1,k2,M8 h1 k3,k4⟩⟩
    |row t sz els g m=>
     simp only[wnO,go] at h ⊢
     cases hk:fW k p with
     |false=>rw[hk] at h;exact ih x he h
     |true=>simp_all
    |rown t sz els g=>
     simp only[wnO,go] at h ⊢
     cases hk:fW k p with
     |false=>rw[hk] at h;exact ih x he h
     |true=>simp_all
    |abs l y=>
     simp only[wnO,go] at h ⊢
     cases hk:fW k p with
     |false=>rw[hk] at h;exact ih x he h
     |true=>simp_all
  obtain⟨y,h1,h2⟩:=key ob x he2 h
  exact h2 (hR.obs p y h1)
 have key:∀(sl:Lab),Eqs (RS o n sl)->(cvT E w (gt sl k) (a.tmps.getD k undef)->cvT E w (gt (wnS o n sl) k) (a.tmps.getD k undef)):=by
  intro sl
  induction sl with
  |nil=>intro _ h;exact h
  |cons q r ih=>
   intro he h
   obtain⟨j,t⟩:=q
   obtain⟨h1,h2⟩:=dE (show Eqs (wnET o n t++RS o n r) from he)
   simp only[wnS,gt] at h ⊢
   cases hj:fW j k with
   |false=>simp_all
   |true=>rw[hj] at h;exact wnT_ok h1 h
 exact key sl he (hR.sl k)
def nlC:C->C
 | .nil=>.d ζ (.l [])
 |c=>c
def nlCs:List C->List C
 |[]=>[]
 |c::cs=>nlC c::nlCs cs
def nlT:T->T
 | .v (.c c)=>.v (.c (nlC c))
 | .v (.agg cs)=>.v (.agg (nlCs cs))
 |t=>t
theorem YF{c:C}(h:cvC E w c u):cvC E w (nlC c) u:=by
 cases c with
 |nil=>
  have h:u= .slice ξ 0 0:=h
  subst h
  show rdD _ _ _ _
  rw[rdD]
  simp_all
 |_=>exact h
theorem Tn{E:Env}{w:World}:∀{cs:List C} {us:Lae},CV E w cs us->CV E w (nlCs cs) us
 |[],[],h=>h
 |[],_::_,h=>h.elim
 |_::_,[],h=>h.elim
 |_::_,_::_,h=>⟨YF h.1,Tn h.2⟩
theorem aan{ob:Laa}{t:T}(hk:gt sl k=t:=by exact rfl):cO N ⟨sl,ob,nx⟩ ⟨(k,nlT t)::sl,ob,nx⟩:=by
 intro cx E a w hR
 refine⟨E,hR.ok,hR.dom,hR.obs,λj=>?_,hR.dfr,hR.size,hR.td⟩
 by_cases hj:k=j
 .subst hj
  rw[da]
  have:=hR.sl k
  rw[hk] at this
  cases t with
  |v v=>
   cases v with
   |c c=>exact YF this
   |agg cs=>obtain⟨arr,h1,h2⟩:=this;exact⟨arr,h1,Tn h2⟩
  |_=>exact this
 rw[ck _ _ hj];exact hR.sl j
def Ao(o n:Nat):Lab->Option Lab
 |[]=>ς []
 |(k,.v (.c c))::r=>match Ao o n r with
  |some r'=>match c with
   | .w q m=>bif fW q o then ς ((k,.v (.c (.w q n)))::r') else ς ((k,.v (.c (.w q m)))::r')
   | .wn q m=>bif fW q o then ς ((k,.v (.c (.wn q n)))::r') else ς ((k,.v (.c (.wn q m)))::r')
   |c=>ς ((k,.v (.c c))::r')
  |none=>ξ
 |(k,t)::r=>match Ao o n r with
  |some r'=>ς ((k,wnT o n t)::r')
  |none=>ξ
theorem Ug{o n:Nat}:∀{sl sl':Lab},Ao o n sl=ς sl'->sl'=wnS o n sl
 |[],sl',h=>by simp[Ao] at h;subst h;rfl
 |(k,t)::r,sl',h=>by
  cases hr:Ao o n r with
  |none=>
   exfalso
   cases t with
   |v v=>cases v<;>simp[Ao,hr] at h
   |tup vs=>simp[Ao,hr] at h
   |any=>simp[Ao,hr] at h
  |some r'=>
   have:=Ug hr
   subst this
   cases t with
   |v v=>
    cases v with
    |c c=>
     cases c with
     |w q m=>
      simp only[Ao,hr] at h
      simp only[wnS,wnT,wnC]
      grind
     |wn q m=>
      simp only[Ao,hr] at h
      simp only[wnS,wnT,wnC]
      grind
     |_=>simp only[Ao,hr] at h;cases h;rfl
    |agg cs=>simp only[Ao,hr] at h;cases h;rfl
   |tup vs=>simp only[Ao,hr] at h;cases h;rfl
   |any=>simp only[Ao,hr] at h;cases h;rfl
def J7(o n:Nat):Laa->Option Laa
 |[]=>ς []
 |(k,.var t cs)::r=>match J7 o n r with
  |some r'=>ς ((k,.var t (wnCs o n cs))::r')
  |none=>ξ
 |p::r=>match J7 o n r with
  |some r'=>ς (p::r')
  |none=>ξ
theorem Uf{o n:Nat}:∀{sl sl':Laa},J7 o n sl=ς sl'->sl'=wnO o n sl
 |[],sl',h=>by simp[J7] at h;subst h;rfl
 |(k,t)::r,sl',h=>by
  cases hr:J7 o n r with
  |none=>exfalso;cases t<;>simp[J7,hr] at h
  |some r'=>
   have:=Uf hr
   subst this
   cases t<;>simp only[J7,hr] at h<;>cases h<;>rfl
theorem PR{o:Nat}{ob:Laa}(hs:Ao o n sl=ς sl':=by exact rfl)(ho:J7 o n ob=ς ob':=by exact rfl)(he:Eqs (RS o n sl):=by repeat (first|exact θ|refine⟨by first|rfl|simp,?_⟩))(he2:Eqs (PT o n ob):=by repeat (first|exact θ|refine⟨by first|rfl|simp,?_⟩)):cO N ⟨sl,ob,nx⟩ ⟨sl',ob',nx⟩:=by
 rw[Ug hs,Uf ho];exact aaq he he2
section
variable{P:Program}{N:Nat}{d:Tmp}{ty:TypeId}{ps:String}{af:Array Edge}{gd:Option (Nat×Bool)}{x y z:Operand}
def Env.mv(E:Env)(o q b c:Nat):Env:={E with r:=λl=>if l=q then ς (b,c) else if l=o then ξ else E.r l}
theorem Yb{o:Nat}{ys:Lad}{c:C}[ht:dz P t e sz by_](hrv:rsv o=η)(ho:go nob o=ς (.row e sz els g ζ))(hs:Src nob c ys gy)(hn:els.length=n)(hsz:∀e∈ys,e.length=sz)(hb:(n+ys.length)*by_<=140737488355328)(h63:n+ys.length<=9223372036854775807):
 AWK P ⟨ς d,.call ⟨.builtin .append,#[x,y],#[t,t]⟩,ty,ps,af,gd⟩ [(x,.v (.c (.w o n))),(y,.v (.c c))] nob (.v (.c (.w q (n+ys.length)))) [(q,.row e sz (els++ys) (g&&gy) ζ)] [] (ς o):=by
 intro cx E a w ok hne hnob hfr
 have hob:∀l x,go nob l=ς x->cN E w l x:=λl x h=>hnob l x (BL h)
 obtain⟨hq1,hq2⟩:=hfr q _ (.head _)
 have h1:cvT E w (.v (.c (.w o n))) (a.eval x):=hne x _ (.head _)
 have h2:cvT E w (.v (.c c)) (a.eval y):=hne y _ (.tail _ (.head _))
 obtain⟨b,cc,hr,hu⟩:=h1
 obtain⟨b',c',arr,hr',hh,ha,hlc,hmx,hes,hrd,hFm,_⟩:=hob o _ ho
 rw[hr] at hr';cases hr'
 have hF:=hFm rfl
 have hoq:o≠q:=λe=>by simp_all
 obtain⟨A,k,hv,hyk,hA⟩:=GO hob hs h2
 obtain⟨ii,zz,i1,i2,i3,i4,i5⟩:=ht.i
 have hbl:=(ok.rb o b cc hr)
 have hown:w.ownsRow 0 e sz (.slice (ς ⟨b,0,ξ⟩) n cc) n (arr.toList.take (n*sz)):=
  ⟨by simp_all,.inr ⟨b,cc,arr,rfl,abm _,hh,by omega,hmx,ha,rfl⟩⟩
 have hsrc:∃news:Lae,news.length=ys.length*sz/\(∀u∈news,u.oneCell'=ζ)/\(∀(j:Nat) (xd:D),ys.flatten[j]?=ς xd->∃u,news[j]?=ς u/\rdD w (E.H gy) xd u)/\
  ∃v' w',(Builtin.append_ #[t,t] ty #[.slice (ς ⟨b,0,ξ⟩) n cc,.slice A ys.length k]).run P w= .ok v' w'/\w'.ownsRow 0 e sz v' (n+ys.length) (arr.toList.take (n*sz)++news)/\w.grownBy w' (ς b)/\v'≠.slice ξ 0 0/\(v'.ownBlock=ς b\/v'.ownBlock=ς w.heap.size):=by
  have hgood:∀ad,A=ς ad->∀news:Lae,news.length=ys.length*sz->(∀(j:Nat) (u:Value),news[j]?=ς u->w.cell? (ad.add j)=ς u)->(∀u∈news,u.oneCell'=ζ)->
   ∃v' w',(Builtin.append_ #[t,t] ty #[.slice (ς ⟨b,0,ξ⟩) n cc,.slice A ys.length k]).run P w= .ok v' w'/\w'.ownsRow 0 e sz v' (n+ys.length) (arr.toList.take (n*sz)++news)/\w.grownBy w' (ς b)/\v'≠.slice ξ 0 0/\(v'.ownBlock=ς b\/v'.ownBlock=ς w.heap.size):=by
   intro ad hAd news n1 n2 n3
   obtain⟨v',w',r1,r2,r3,r4,r5⟩:=run_append_own_at (P:=P) w 0 t ty e ii zz sz by_ ht.u i1 i4 i2 i3 i5 ht.p _ n _ hown ad ys.length k news n1 n2 n3 (by unfold maxLen;omega) hb (abm _)
   exact⟨v',w',by simp_all,r2,r3,(λh=>by simp_all),r5⟩
  rcases hA with h0|⟨b2,off,rfl,hrd2⟩
  .subst h0
   refine⟨[],by simp,by simp,by simp,?_⟩
   cases A with
   |none=>exact⟨_,w,uh w ht.u i1 hown k,by simp_all,⟨rfl,rfl,rfl,abk _,λ_ _ _=>rfl⟩,by simp,.inl rfl⟩
   |some ad=>simp_all
  obtain⟨us,q1,q2,q3,q4⟩:=wy (eN.1 hrd2)
  exact⟨us,by rw[q1,eF hsz],q3,q4,hgood _ rfl us (by rw[q1,eF hsz]) q2 q3⟩
 obtain⟨news,n1,n2,n3,v',w',r1,r2,r3,r4,r5⟩:=hsrc
 obtain⟨_,r2⟩:=r2
 rcases r2 with⟨rfl,_⟩|⟨bn,cap,cur,rfl,_,hhn,hcap,hcapm,hcur,htk⟩
 .simp_all
 unfold Oper.wp
 simp only[execOp,resolve,invoke,builtin,Sem.run_bind,Sem.run_pure,Result.andThen_ok,ad8,adU,ad3,hu,hv,r1,Oper.upon_value]
 have hbn:bn=b\/bn=w.heap.size:=by simpa [Value.ownBlock] using r5
 have hsame:∀k,k<w.heap.size->k≠b->w'.heap[k]?=w.heap[k]?:=λk hk hne=>r3.block k hk (λe=>hne (by injection e))
 have hnF:¬E.F bn:=by
  rcases hbn with rfl|rfl
  .exact hF
  exact λh=>by have:=ok.fb _ h;omega
 have hbig:bn<w'.heap.size:=by
  rcases ac9 bn w'.heap.size with h|h
  .exact h
  simp_all
 have hnew:∀l bl cl,l≠o->E.r l=ς (bl,cl)->bl≠bn:=by
  intro l bl cl hne hl e
  subst e
  rcases hbn with h|h
  .subst h;exact hne (ok.inj l o _ _ _ hl hr)
  have:=(ok.rb l bl cl hl).1;omega
 have hHb:∀(g:Bool) k,E.H g k->k≠b/\k<w.heap.size:=λg k hk=>⟨λe=>by subst e;cases g;exact hF hk;exact hF (ok.gf _ hk),ok.hb hk⟩
 have kH:∀(g:Bool) (k:Nat),E.H g k->w'.heap[k]?=w.heap[k]?:=λg k hk=>hsame k (hHb g k hk).2 (hHb g k hk).1
 have kI:∀(g:Bool) (k:Nat),E.H g k->(E.mv o q bn cap).H g k:=λ_ _ h=>h
 have hbnew:cx.In b:=by
  rcases hbl.2 with h|h
  .exact h
  simp_all
 have hmv:∀l bl cl,(E.mv o q bn cap).r l=ς (bl,cl)->(l=q/\bl=bn/\cl=cap)\/(l≠q/\l≠o/\E.r l=ς (bl,cl)):=by
  intro l bl cl hl
  simp only[Env.mv] at hl
  split at hl
  .simp_all
  simp_all
 refine⟨_,E.mv o q bn cap,rfl,⟨λk hk=>aci (ok.fb k hk) r3.size,ok.gf,ok.gn,λl bl cl hl=>?_,λl l' bl cl cl' hl hl'=>?_,by rw[r3.os];exact ok.os,by rw[r3.tape];exact ok.tape,by rw[r3.output];exact ok.output,acR ok.size r3.size,λk hk hW=>?_,λl xx hv hl=>?_,ok.ff,λk hk hk'=>(ok.gc k hk hk').of_eq (hsame k (hHb η k hk).2 (hHb η k hk).1),ok.sf.turn hr rfl rfl (λ_ h=>.inl h) (λl bl cl hl=>?_) r3.size hsame⟩,
  ⟨λl xx hl hlr=>?_,λ_ h=>h,λ_ h=>h,λ_ h=>.inl h,λk hk _ hkl=>hsame k hk (λe=>hkl o cc rfl (e▸hr)),(λ_ _ _ _ h=>by cases h),λl bl cl hl hlr=>?_,λ_ _ h=>h,λ_ _ h=>.inl h,rfl,rfl⟩,⟨bn,cap,by simp[Env.mv],rfl⟩,λl ob hm=>?_,(λ_ _ h=>by cases h),λl xx hl=>?_⟩
 .rcases hmv l bl cl hl with⟨_,rfl,rfl⟩|⟨_,_,hl⟩
  .refine⟨hbig,.inl ?_⟩
   rcases hbn with h|h
   .rw[h];exact hbnew
   exact .inl (by have:=ok.size;omega)
  have:=ok.rb l bl cl hl;exact⟨aci this.1 r3.size,this.2⟩
 .rcases hmv l bl cl hl with⟨h1,h2,h3⟩|⟨h1,h2,h3⟩<;>rcases hmv l' bl cl' hl' with⟨k1,k2,k3⟩|⟨k1,k2,k3⟩
  .omega
  .grind
  .grind
  exact ok.inj l l' bl cl cl' h3 k3
 .rw[hsame k (by have:=ok.size;omega) (λe=>by subst e;exact hbnew.nw.elim (λ_=>by omega) hW)];exact ok.block k hk hW
 .obtain⟨bl,cl⟩:=xx
  rcases hmv l bl cl hl with⟨rfl,_⟩|⟨_,_,hl⟩
  .rw[xT hq2] at hv;cases hv
  exact ok.pin l _ hv hl
 .grind
 .simp only[Env.mv]
  grind
 .grind
 .simp at hm;obtain⟨rfl,rfl⟩:=hm
  have hall:∀e'∈els++ys,e'.length=sz:=λe' he'=>by
   grind
  refine⟨bn,cap,cur,by simp[Env.mv],hhn,hcur,by simp;omega,hcapm,hall,?_,λ_=>hnF,(λh=>by cases h),θ⟩
  rw[eN]
  refine mG λj xd hj=>?_
  rw[aa5,dX hhn]
  rw[ad2] at hj
  have hfl:els.flatten.length=n*sz:=by rw[eF hes,hn]
  have hxs:(arr.toList.take (n*sz)).length=n*sz:=by simp[ha];rw[ad1 oaa]
  have hcurj:∀u,(arr.toList.take (n*sz)++news)[j]?=ς u->cur[j]?=ς u:=by
   intro u hu
   rw[<-htk,adj] at hu
   split at hu
   .simp_all
   cases hu
  by_cases hjn:j<n*sz
  .rw[aa8 oaa] at hj
   obtain⟨u,u1,u2⟩:=iz (eN.1 hrd) hj
   rw[aa5,dX hh] at u1
   refine⟨u,hcurj u ?_,bQ (kH _) (kI _) _ _ (qX ok u2 (by simp_all))⟩
   grind
  rw[aa3 oaa,hfl] at hj
  obtain⟨u,u1,u2⟩:=n3 _ _ hj
  refine⟨u,hcurj u ?_,bQ (kH _) (kI _) _ _ (qX ok u2 (by simp))⟩
  rw[aa3 oaa,hxs]
  exact u1
 grind
theorem FB{ys:Lad}{c:C}[ht:dz P t e sz by_](hs:Src nob c ys gy)(hne0:ys≠[])(hsz:∀e∈ys,e.length=sz)(hb:ys.length*by_<=140737488355328)(h63:ys.length<=9223372036854775807)(ok:dr cx E w)(hob:∀l x,go nob l=ς x->cN E w l x)(hq1:E.r q=ξ)(hq2:rsv q=η)(hu:a.eval x= .slice ξ 0 0)(h2:cvT E w (.v (.c c)) (a.eval y)):
 Oper.wp P ⟨ς d,.call ⟨.builtin .append,#[x,y],#[t,t]⟩,ty,ps,af,gd⟩ a w (λa' w'=>∃v E',a'=a.put (ς d) v/\dr cx E' w'/\Ext E w E' w'/\cvT E' w' (.v (.c (.w q ys.length))) v/\(∀l ob,(l,ob)∈[(q,Ob.row e sz ys gy ζ)]->cN E' w' l ob)/\
  (∀l x,E'.r l=ς x->E.r l=ς x\/∃ob,(l,ob)∈[(q,Ob.row e sz ys gy ζ)])) (λ_ _ _=>False):=by
 obtain⟨A,k,hv,hyk,hA⟩:=GO hob hs h2
 obtain⟨ii,zz,i1,i2,i3,i4,i5⟩:=ht.i
 have hown:=World.ownsRow_nil w 0 e sz
 rcases hA with h0|⟨b2,off,rfl,hrd2⟩
 .simp_all
 obtain⟨news,q1,q2,q3,n3⟩:=wy (eN.1 hrd2)
 have n1:news.length=ys.length*sz:=by rw[q1,eF hsz]
 obtain⟨v',w',r1,r2,r3,r4,r5⟩:=run_append_own_at (P:=P) w 0 t ty e ii zz sz by_ ht.u i1 i4 i2 i3 i5 ht.p _ 0 _ hown ⟨b2,off,ξ⟩ ys.length k news n1 q2 q3 (by unfold maxLen;omega) (by simp_all) (abm _)
 have hnn:v'≠.slice ξ 0 0:=λh=>hne0 (adn (r4.1 h).2)
 obtain⟨_,r2⟩:=r2
 rcases r2 with⟨rfl,_⟩|⟨bn,cap,cur,rfl,_,hhn,hcap,hcapm,hcur,htk⟩
 .simp_all
 simp only[aa5,adT] at r1 hcap htk hnn r4 r5
 unfold Oper.wp
 simp only[execOp,resolve,invoke,builtin,Sem.run_bind,Sem.run_pure,Result.andThen_ok,ad8,adU,ad3,hu,hv,r1,Oper.upon_value]
 have hbn:bn=w.heap.size:=by simpa [Value.ownBlock] using r5
 have hsame:∀k,k<w.heap.size->w'.heap[k]?=w.heap[k]?:=λk hk=>r3.block k hk (λe=>by simp[Value.ownBlock] at e)
 have hnF:¬E.F bn:=λh=>by have:=ok.fb _ h;omega
 have hbig:bn<w'.heap.size:=by
  rcases ac9 bn w'.heap.size with h|h
  .exact h
  simp_all
 have kH:∀(g:Bool) (k:Nat),E.H g k->w'.heap[k]?=w.heap[k]?:=λg k hk=>hsame k (ok.hb hk)
 have kI:∀(g:Bool) (k:Nat),E.H g k->(E.new q bn cap).H g k:=λ_ _ h=>h
 have hmv:∀l bl cl,(E.new q bn cap).r l=ς (bl,cl)->(l=q/\bl=bn/\cl=cap)\/(l≠q/\E.r l=ς (bl,cl)):=by
  intro l bl cl hl
  simp only[Env.new] at hl
  split at hl
  .simp_all
  simp_all
 refine⟨_,E.new q bn cap,rfl,⟨λk hk=>aci (ok.fb k hk) r3.size,ok.gf,ok.gn,λl bl cl hl=>?_,λl l' bl cl cl' hl hl'=>?_,by rw[r3.os];exact ok.os,by rw[r3.tape];exact ok.tape,by rw[r3.output];exact ok.output,acR ok.size r3.size,λk hk hW=>?_,λl xx hv hl=>?_,ok.ff,λk hk hk'=>(ok.gc k hk hk').of_eq (hsame k (ok.fb k hk)),ok.sf.grow rfl rfl (λ_ h=>.inl h) (λl bl cl hl=>?_) r3.size hsame⟩,
  ⟨λl xx hlr=>?_,λ_ h=>h,λ_ h=>h,λ_ h=>.inl h,hsame,λ_ _ h=>h,λ_ _ h=>.inl h,rfl,rfl⟩,⟨bn,cap,by simp[Env.new],rfl⟩,λl ob hm=>?_,λl xx hl=>?_⟩
 .rcases hmv l bl cl hl with⟨_,rfl,rfl⟩|⟨_,hl⟩
  .exact⟨hbig,.inl (.inl (by rw[hbn];exact ok.size))⟩
  have:=ok.rb l bl cl hl;exact⟨aci this.1 r3.size,this.2⟩
 .rcases hmv l bl cl hl with⟨h1,h2,h3⟩|⟨h1,h3⟩<;>rcases hmv l' bl cl' hl' with⟨k1,k2,k3⟩|⟨k1,k3⟩
  .omega
  .have:=(ok.rb l' bl cl' k3).1;omega
  .have:=(ok.rb l bl cl h3).1;omega
  exact ok.inj l l' bl cl cl' h3 k3
 .rw[hsame k (by have:=ok.size;omega)];exact ok.block k hk hW
 .obtain⟨bl,cl⟩:=xx
  rcases hmv l bl cl hl with⟨rfl,_⟩|⟨_,hl⟩
  .rw[xT hq2] at hv;cases hv
  exact ok.pin l _ hv hl
 .grind
 .simp only[Env.new]
  grind
 .simp at hm;obtain⟨rfl,rfl⟩:=hm
  refine⟨bn,cap,cur,by simp[Env.new],hhn,hcur,by omega,hcapm,hsz,?_,λ_=>hnF,(λh=>by cases h),θ⟩
  rw[eN]
  refine mG λj xd hj=>?_
  rw[aa5,dX hhn]
  obtain⟨u,u1,u2⟩:=n3 _ _ hj
  refine⟨u,?_,bQ (kH _) (kI _) _ _ u2⟩
  grind
 grind
end
section
variable{P:Program}{N:Nat}{d:Tmp}{ty:TypeId}{ps:String}{af:Array Edge}{gd:Option (Nat×Bool)}{x y:Operand}{sl:Lab}{ob:Laa}{nx:Nat}{α:Type}{enc:α->List D}
theorem apx{o:Nat}{ys zs:List α}{zd:Lad}{gg:Bool}{c:C}(ls:List Nat)[dz P t e sz by_](H:c8 by_ (ys++zs).length=ζ)(hzd:zs.map enc=zd:=by exact rfl)(henc:∀a,(enc a).length=sz:=by exact λ_=>rfl)(hp:t8 ob ls=ς nob:=by exact rfl)(hd:nlt d N=true:=by exact rfl)(hx:opT sl x= .v (.c (.w o n)):=by exact rfl)(hy:opT sl y= .v (.c c):=by exact rfl)(hn:ys.length=n:=by first|rfl|simp)(hs:Src nob c zd gy:=by first|exact .d|exact .nil|exact .w rfl (by first|rfl|exact lm _|simp)|exact .wn rfl (by first|rfl|exact lm _|simp))(ho:go nob o=ς (.row e sz (ys.map enc) g ζ):=by exact rfl)(hg:(g&&gy)=gg:=by exact rfl)(hrv:rsv o=false:=by exact rfl)(hnx:nxt nx=ς nx':=by exact rfl):
 NX P N ⟨ς d,.call ⟨.builtin .append,#[x,y],#[t,t]⟩,ty,ps,af,gd⟩ ⟨sl,ob,nx⟩ ⟨(d,.v (.c (.w nx (ys++zs).length)))::sl,(nx,.row e sz ((ys++zs).map enc) gg ζ)::ob,nx'⟩
  ⟨⟨d,[(x,.v (.c (.w o n))),(y,.v (.c c))],nob,.v (.c (.w nx (ys++zs).length)),[(nx,.row e sz ((ys++zs).map enc) gg ζ)]⟩,[],ς o⟩:=by
 subst hzd;subst hg
 simp only[c8,decide_eq_true_eq,ads] at H
 have:=Yb (P:=P) (d:=d) (ty:=ty) (ps:=ps) (af:=af) (gd:=gd) (x:=x) (y:=y) (t:=t) (e:=e) (sz:=sz) (by_:=by_) (q:=nx) (n:=n) hrv ho hs (by simp_all) (JN henc zs) (by simp_all) (by simp_all)
 rw[<-adZ,adb,<-hn,<-ads] at this
 exact⟨by simp_all,.inl ⟨rfl,bV hd⟩,⟨hx,hy,θ⟩,wr hp,rL hnx,rfl⟩
theorem No{o:Nat}{ys zs:List α}{zd:Lad}{c:C}(ls:List Nat)[dz P t e sz by_](H:c8 by_ (ys++zs).length=ζ)(hzd:zs.map enc=zd:=by exact rfl)(henc:∀a,(enc a).length=sz:=by exact λ_=>rfl)(hfl:∀a,uK (enc a)=true:=by exact λ_=>rfl)(hp:t8 ob ls=ς nob:=by exact rfl)(hd:nlt d N=true:=by exact rfl)(hx:opT sl x= .v (.c (.w o n)):=by exact rfl)(hy:opT sl y= .v (.c c):=by exact rfl)(hn:ys.length=n:=by first|rfl|simp)(hs:Src nob c zd gy:=by first|exact .d|exact .nil|exact .w rfl (by first|rfl|exact lm _|simp)|exact .wn rfl (by first|rfl|exact lm _|simp))(ho:go nob o=ς (.row e sz (ys.map enc) g ζ):=by exact rfl)(hrv:rsv o=false:=by exact rfl)(hnx:nxt nx=ς nx':=by exact rfl):
 NX P N ⟨ς d,.call ⟨.builtin .append,#[x,y],#[t,t]⟩,ty,ps,af,gd⟩ ⟨sl,ob,nx⟩ ⟨(d,.v (.c (.w nx (ys++zs).length)))::sl,(nx,.row e sz ((ys++zs).map enc) ζ ζ)::ob,nx'⟩
  ⟨⟨d,[(x,.v (.c (.w o n))),(y,.v (.c c))],nob,.v (.c (.w nx (ys++zs).length)),[(nx,.row e sz ((ys++zs).map enc) ζ ζ)]⟩,[],ς o⟩:=by
 obtain⟨h1,h2,h3,h4,h5,h6⟩:=apx (P:=P) (N:=N) (t:=t) (x:=x) (y:=y) (enc:=enc) (d:=d) (ty:=ty) (ps:=ps) (af:=af) (gd:=gd) (sl:=sl) (ob:=ob) (nx:=nx) ls H hzd henc hp hd hx hy hn hs ho rfl hrv hnx
 refine⟨?_,h2,h3,h4,rL hnx,rfl⟩
 intro cx E a w ok hne hnob hfr
 refine Oper.wp_mono ?_ (h1 cx E a w ok hne hnob (λl x hm=>by simp_all))
 rintro a' w' ⟨v,E',k1,k2,k3,k4,k5,k6,k7⟩
 refine⟨v,E',k1,k2,k3,k4,λl x hm=>?_,k6,λl x hl=>(k7 l x hl).imp id (λ⟨x',hm⟩=>by simp_all)⟩
 simp at hm;obtain⟨rfl,rfl⟩:=hm
 obtain⟨b,c,arr,j1,j2,j3,j4,j5,j6,j7,j8,j9⟩:=k5 _ _ (.head _)
 refine⟨b,c,arr,j1,j2,j3,by simp_all,j5,by simp_all,?_,j8,(λh=>by cases h),θ⟩
 have:rdLL w' (E'.H ζ) ((ys++zs).map enc) b 0:=Az (λe he=>by grind) j7
 simp_all
end
theorem nO{o:Nat}{ob:Laa}{cs':List C}{e:Lac}(ho:go ob o=ς (.var ty cs):=by exact rfl)(hv:Qn ob cs=ς (cs',e):=by exact rfl)(he:Eqs e:=by repeat (first|exact θ|refine⟨by first|rfl|exact lm _|simp,?_⟩)):cO N ⟨sl,ob,nx⟩ ⟨sl,(o,.var ty cs')::ob,nx⟩:=by
 intro cx E a w hR
 refine⟨E,hR.ok,hR.dom,λp x h=>?_,hR.sl,hR.dfr,hR.size,hR.td⟩
 by_cases hp:o=p
 .subst hp
  rw[bX] at h;cases h
  obtain⟨b,c,arr,h1,h2,h3,h4⟩:=hR.obs o _ ho
  exact⟨b,c,arr,h1,h2,LA hR.obs hv he h3,h4⟩
 rw[bg _ _ hp] at h;exact hR.obs p x h
theorem A8{ob:Laa}(h:abD nx nx'=ζ):cO N ⟨sl,ob,nx⟩ ⟨sl,ob,nx'⟩:=by
 intro cx E a w hR
 have:=adp h
 exact⟨E,hR.ok,λo x ho=>aci (hR.dom o x ho) this,hR.obs,hR.sl,hR.dfr,hR.size,λl b hb=>aci (hR.td l b hb) this⟩
theorem dr.setN(ok:dr cx E w)(n:Nat->Prop):dr cx {E with n:=n} w:=
 ⟨ok.fb,ok.gf,ok.gn,ok.rb,ok.inj,ok.os,ok.tape,ok.output,ok.size,ok.block,ok.pin,ok.ff,ok.gc,⟨ok.sf.tb,ok.sf.tt,ok.sf.zc,ok.sf.zs,ok.sf.ze⟩⟩
def lp(f:C->Option C):List C->Option (List C)
 |[]=>ς []
 |c::cs=>match f c,lp f cs with
  |some x,ς xs=>ς (x::xs)
  |_,_=>ξ
def F1(f:C->Option C):V->Option V
 | .c c=>match f c with
  |some x=>ς (.c x)
  |none=>ξ
 | .agg cs=>match lp f cs with
  |some x=>ς (.agg x)
  |none=>ξ
def zD(f:C->Option C):List V->Option (List V)
 |[]=>ς []
 |c::cs=>match F1 f c,zD f cs with
  |some x,ς xs=>ς (x::xs)
  |_,_=>ξ
def xP(f:C->Option C):T->Option T
 | .v v=>match F1 f v with
  |some x=>ς (.v x)
  |none=>ξ
 | .tup vs=>match zD f vs with
  |some x=>ς (.tup x)
  |none=>ξ
 | .any=>ς .any
def pZ(f:C->Option C):Lab->Option Lab
 |[]=>ς []
 |(k,t)::r=>match xP f t,pZ f r with
  |some x,ς xs=>ς ((k,x)::xs)
  |_,_=>ξ
def nL(f:C->Option C)(g:Nat->Ob->Option Ob):Laa->Option Laa
 |[]=>ς []
 |(k,.var t cs)::r=>match lp f cs,nL f g r with
  |some x,ς xs=>ς ((k,.var t x)::xs)
  |_,_=>ξ
 |(k,.row t sz els gg m)::r=>match g k (.row t sz els gg m),nL f g r with
  |some x,ς xs=>ς ((k,x)::xs)
  |_,_=>ξ
 |(k,.rown t sz els gg)::r=>match g k (.rown t sz els gg),nL f g r with
  |some x,ς xs=>ς ((k,x)::xs)
  |_,_=>ξ
 |(k,.abs j y)::r=>match g k (.abs j y),nL f g r with
  |some x,ς xs=>ς ((k,x)::xs)
  |_,_=>ξ
section
variable{f:C->Option C}{E E':Env}{w w':World}(hf:∀c c' u,f c=ς c'->cvC E w c u->cvC E' w' c' u)
include hf
theorem tT:∀{cs cs':List C} {us:Lae},lp f cs=ς cs'->CV E w cs us->CV E' w' cs' us
 |[],cs',us,h,hc=>by
  simp[lp] at h;subst h
  cases us with
  |nil=>trivial
  |cons _ _=>exact hc.elim
 |c::cs,cs',us,h,hc=>by
  cases us with
  |nil=>exact hc.elim
  |cons u us=>
   simp only[lp] at h
   split at h
   .rename_i h1 h2;simp at h;subst h;exact⟨hf _ _ _ h1 hc.1,tT h2 hc.2⟩
   cases h
theorem Th{v':V}(h:F1 f v=ς v')(hv:cvV E w v u):cvV E' w' v' u:=by
 cases v with
 |c c=>
  simp only[F1] at h
  split at h
  .rename_i h1;simp at h;subst h;exact hf _ _ _ h1 hv
  cases h
 |agg cs=>
  simp only[F1] at h
  split at h
  .rename_i h1;simp at h;subst h;obtain⟨arr,hu,hc⟩:=hv;exact⟨arr,hu,tT hf h1 hc⟩
  cases h
theorem OE:∀{cs cs':List V} {us:Lae},zD f cs=ς cs'->VV E w cs us->VV E' w' cs' us
 |[],cs',us,h,hc=>by
  simp[zD] at h;subst h
  cases us with
  |nil=>trivial
  |cons _ _=>exact hc.elim
 |c::cs,cs',us,h,hc=>by
  cases us with
  |nil=>exact hc.elim
  |cons u us=>
   simp only[zD] at h
   split at h
   .rename_i h1 h2;simp at h;subst h;exact⟨Th hf h1 hc.1,OE h2 hc.2⟩
   cases h
theorem Df{v v':T}(h:xP f v=ς v')(hv:cvT E w v u):cvT E' w' v' u:=by
 cases v with
 |v v=>
  simp only[xP] at h
  split at h
  .rename_i h1;simp at h;subst h;exact Th hf h1 hv
  cases h
 |tup vs=>
  simp only[xP] at h
  split at h
  .rename_i h1;simp at h;subst h;obtain⟨arr,hu,hc⟩:=hv;exact⟨arr,hu,OE hf h1 hc⟩
  cases h
 |any=>simp[xP] at h;subst h;trivial
theorem AT{k:Nat}{u:Value}:∀{sl sl':Lab},pZ f sl=ς sl'->cvT E w (gt sl k) u->cvT E' w' (gt sl' k) u
 |[],sl',h,_=>by simp[pZ] at h;subst h;trivial
 |(j,t)::r,sl',h,hc=>by
  simp only[pZ] at h
  split at h
  .rename_i h1 h2
   simp at h;subst h
   by_cases hj:j=k
   .subst hj;rw[da] at hc ⊢;exact Df hf h1 hc
   rw[ck _ _ hj] at hc ⊢;exact AT h2 hc
  cases h
end
theorem u9{f:C->Option C}{g:Nat->Ob->Option Ob}{l:Nat}{y:Ob}:∀{ob ob':Laa},nL f g ob=ς ob'->go ob' l=ς y->
 (∃t cs cs',go ob l=ς (.var t cs)/\lp f cs=ς cs'/\y= .var t cs')\/(∃x,go ob l=ς x/\(∀t cs,x≠.var t cs)/\g l x=ς y)
 |[],ob',h,hy=>by simp[nL] at h;subst h;cases hy
 |(k,x)::r,ob',h,hy=>by
  cases x with
  |var t cs=>
   simp only[nL] at h
   split at h
   .rename_i h1 h2
    simp at h;subst h
    by_cases hk:k=l
    .subst hk;rw[bX] at hy ⊢;grind
    rw[bg _ _ hk] at hy ⊢;exact u9 h2 hy
   cases h
  |row t sz els gg m=>
   simp only[nL] at h
   split at h
   .rename_i h1 h2
    simp at h;subst h
    by_cases hk:k=l
    .subst hk;rw[bX] at hy ⊢;simp_all
    rw[bg _ _ hk] at hy ⊢;exact u9 h2 hy
   cases h
  |rown t sz els gg=>
   simp only[nL] at h
   split at h
   .rename_i h1 h2
    simp at h;subst h
    by_cases hk:k=l
    .subst hk;rw[bX] at hy ⊢;simp_all
    rw[bg _ _ hk] at hy ⊢;exact u9 h2 hy
   cases h
  |abs j z=>
   simp only[nL] at h
   split at h
   .rename_i h1 h2
    simp at h;subst h
    by_cases hk:k=l
    .subst hk;rw[bX] at hy ⊢;simp_all
    rw[bg _ _ hk] at hy ⊢;exact u9 h2 hy
   cases h
def J5(o:Nat):C->Option C
 | .w l n=>match fW l o with
  |true=>ς (.wn l n)
  |false=>ς (.w l n)
 | .wn l n=>match fW l o with
  |true=>ς .any
  |false=>ς (.wn l n)
 |c=>ς c
def RI(o:Nat)(k:Nat):Ob->Option Ob
 | .row t sz els g ζ=>match fW k o with
  |true=>ς (.rown t sz els g)
  |false=>ς (.row t sz els g ζ)
 |x=>ς x
theorem ez{rt:Nat}{g:Gr}{ob:Laa}(o:Nat)(ho:go ob o=ς (.row rt sz els g ζ):=by exact rfl)(hs:pZ (J5 o) sl=ς sl':=by exact rfl)(hb:nL (J5 o) (RI o) ob=ς ob':=by exact rfl):cO N ⟨sl,ob,nx⟩ ⟨sl',ob',nx⟩:=by
 intro cx E a w hR
 have hf:∀c c' u,J5 o c=ς c'->cvC E w c u->cvC {E with n:=λl=>l≠o/\E.n l} w c' u:=by
  intro c c' u h hc
  cases c with
  |w l n=>
   simp only[J5] at h
   split at h
   .rename_i hb
    have:=aat hb
    subst this
    cases h
    exact .inr ⟨λh=>h.1 rfl,hc⟩
   cases h;exact hc
  |wn l n=>
   simp only[J5] at h
   split at h
   .cases h;trivial
   rename_i hb
   have:=hP hb
   cases h
   rcases hc with⟨h1,h2⟩|⟨h1,h2⟩
   .exact .inl ⟨⟨this,h1⟩,h2⟩
   exact .inr ⟨λh=>h1 h.2,h2⟩
  |_=>simp only[J5] at h;cases h;exact hc
 refine⟨{E with n:=λl=>l≠o/\E.n l},hR.ok.setN _,hR.dom,λl y hl=>?_,λk=>AT hf hs (hR.sl k),hR.dfr,hR.size,hR.td⟩
 rcases u9 hb hl with⟨t,cs,cs',h1,h2,rfl⟩|⟨x,h1,h2,h3⟩
 .obtain⟨b,c,arr,k1,k2,k3,k4⟩:=hR.obs l _ h1
  exact⟨b,c,arr,k1,k2,tT hf h2 k3,k4⟩
 have hx:=hR.obs l x h1
 cases x with
 |var t cs=>simp_all
 |row t sz els g m=>
  cases m with
  |true=>
   simp only[RI] at h3
   split at h3
   .rename_i hb
    have:=aat hb
    subst this
    cases h3
    obtain⟨b,c,arr,k1,k2,k3,k4,k5,k6,k7,k8,_,k9⟩:=hx
    exact .inr ⟨λh=>h.1 rfl,b,c,arr,k1,k2,k3,k4,k5,k6,k7,k8 rfl,Pq rfl k9⟩
   cases h3;exact hx
  |false=>simp only[RI] at h3;cases h3;exact hx
 |rown t sz els g=>
  simp only[RI] at h3
  cases h3
  have hlo:l≠o:=λe=>by simp_all
  rcases hx with⟨k1,k2⟩|⟨k1,k2⟩
  .exact .inl ⟨⟨hlo,k1⟩,k2⟩
  exact .inr ⟨λh=>k1 h.2,k2⟩
 |abs j y=>
  simp only[RI] at h3
  cases h3
  have hlo:l≠o:=λe=>by simp_all
  rcases hx with⟨k1,k2⟩|⟨k1,k2⟩
  .exact .inl ⟨⟨hlo,k1⟩,k2⟩
  exact .inr ⟨λh=>k1 h.2,k2⟩
def M3(o:Nat):C->Option C
 | .wn l n=>match fW l o with
  |true=>ς (.w l n)
  |false=>ς (.wn l n)
 |c=>ς c
def V2(o:Nat)(k:Nat):Ob->Option Ob
 | .rown t sz els g=>match fW k o with
  |true=>ς (.row t sz els g ζ)
  |false=>ς (.rown t sz els g)
 |x=>ς x
theorem Jp{ty:Nat}{ob:Laa}(o:Nat)(ho:go ob o=ς (.rown ty sz els g):=by exact rfl)(hne:els≠[])(hs:pZ (M3 o) sl=ς sl':=by exact rfl)(hb:nL (M3 o) (V2 o) ob=ς ob':=by exact rfl):cO N ⟨sl,ob,nx⟩ ⟨sl',ob',nx⟩:=by
 intro cx E a w hR
 have hn:¬E.n o:=by
  rcases hR.obs o _ ho with⟨_,h⟩|⟨h,_⟩
  .simp_all
  exact h
 have hf:∀c c' u,M3 o c=ς c'->cvC E w c u->cvC E w c' u:=by
  intro c c' u h hc
  cases c with
  |wn l n=>
   simp only[M3] at h
   split at h
   .rename_i hb
    have:=aat hb
    subst this
    cases h
    rcases hc with⟨h1,_⟩|⟨_,h2⟩
    .simp_all
    exact h2
   simp_all
  |_=>simp only[M3] at h;simp_all
 refine⟨E,hR.ok,hR.dom,λl y hl=>?_,λk=>AT hf hs (hR.sl k),hR.dfr,hR.size,hR.td⟩
 rcases u9 hb hl with⟨t,cs,cs',h1,h2,rfl⟩|⟨x,h1,h2,h3⟩
 .obtain⟨b,c,arr,k1,k2,k3,k4⟩:=hR.obs l _ h1
  exact⟨b,c,arr,k1,k2,tT hf h2 k3,k4⟩
 have hx:=hR.obs l x h1
 cases x with
 |var t cs=>simp_all
 |row t sz els g m=>simp only[V2] at h3;simp_all
 |rown t sz els g=>
  simp only[V2] at h3
  split at h3
  .rename_i hb
   have:=aat hb
   subst this
   cases h3
   rcases hx with⟨k1,k2⟩|⟨_,b,c,arr,k1,k2,k3,k4,k5,k6,k7,k8⟩
   .simp_all
   exact⟨b,c,arr,k1,k2,k3,k4,k5,k6,k7,λ_=>k8.1,(λh=>by cases h),Pq rfl k8.2⟩
  simp_all
 |abs j y=>simp only[V2] at h3;simp_all
def Al(n:Nat):Lab->Bool
 |[]=>ζ
 |(_,t)::r=>t.lt n&&Al n r
def tZ(n:Nat):Laa->Bool
 |[]=>ζ
 |(l,x)::r=>(nlt l n&&x.lt n)&&tZ n r
theorem T3{n:Nat}:∀{sl:Lab} (k:Nat),Al n sl=ζ->(gt sl k).lt n=ζ
 |[],k,_=>rfl
 |(j,t)::r,k,h=>by
  simp only[Al,f4] at h
  by_cases hj:j=k
  .subst hj;rw[da];exact h.1
  rw[ck _ _ hj];exact T3 k h.2
theorem t0{n:Nat}:∀{ob:Laa} {l:Nat} {x:Ob},tZ n ob=ζ->go ob l=ς x->l<n/\x.lt n=ζ
 |(k,y)::r,l,x,h,hl=>by
  simp only[tZ,f4] at h
  by_cases hk:k=l
  .subst hk;rw[bX] at hl;cases hl;exact⟨bV h.1.1,h.1.2⟩
  rw[bg _ _ hk] at hl;exact t0 h.2 hl
section
variable{E:Env}{w:World}{n:Nat}{p:Nat->Prop}(hp:∀l,l<n->(p l↔E.n l))
include hp
theorem NE{c:C}(hl:c.lt n=ζ)(h:cvC E w c u):cvC {E with n:=p} w c u:=by
 cases c with
 |wn o m=>
  have:=hp o (bV hl)
  rcases h with⟨h1,h2⟩|⟨h1,h2⟩
  .exact .inl ⟨this.2 h1,h2⟩
  exact .inr ⟨λk=>h1 (this.1 k),h2⟩
 |_=>exact h
theorem Li:∀{cs:List C} {us:Lae},cs.all (C.lt n)=ζ->CV E w cs us->CV {E with n:=p} w cs us
 |[],[],_,_=>trivial
 |c::cs,u::us,hl,h=>by
  simp only[adm,f4] at hl
  exact⟨NE hp hl.1 h.1,Li hl.2 h.2⟩
 |[],_::_,_,h=>h.elim
 |_::_,[],_,h=>h.elim
theorem NF(hl:v.lt n=ζ)(h:cvV E w v u):cvV {E with n:=p} w v u:=by
 cases v with
 |c c=>exact NE hp hl h
 |agg cs=>obtain⟨arr,hu,h⟩:=h;exact⟨arr,hu,Li hp hl h⟩
theorem R4:∀{cs:List V} {us:Lae},cs.all (V.lt n)=ζ->VV E w cs us->VV {E with n:=p} w cs us
 |[],[],_,_=>trivial
 |c::cs,u::us,hl,h=>by
  simp only[adm,f4] at hl
  exact⟨NF hp hl.1 h.1,R4 hl.2 h.2⟩
 |[],_::_,_,h=>h.elim
 |_::_,[],_,h=>h.elim
theorem Xb{t:T}(hl:t.lt n=ζ)(h:cvT E w t u):cvT {E with n:=p} w t u:=by
 cases t with
 |v v=>exact NF hp hl h
 |tup ts=>obtain⟨arr,hu,h⟩:=h;exact⟨arr,hu,R4 hp hl h⟩
 |any=>trivial
theorem Rh{o:Nat}(ho:o<n)(hl:x.lt n=ζ)(h:cN E w o x):cN {E with n:=p} w o x:=by
 cases x with
 |var t cs=>obtain⟨b,c,arr,k1,k2,k3,k4⟩:=h;exact⟨b,c,arr,k1,k2,Li hp hl k3,k4⟩
 |row t sz els g m=>exact h
 |rown t sz els g=>
  rcases h with⟨h1,h2⟩|⟨h1,h2⟩
  .exact .inl ⟨(hp o ho).2 h1,h2⟩
  exact .inr ⟨λk=>h1 ((hp o ho).1 k),h2⟩
 |abs j y=>
  rcases h with⟨h1,h2⟩|⟨h1,h2⟩
  .exact .inl ⟨(hp o ho).2 h1,h2⟩
  exact .inr ⟨λk=>h1 ((hp o ho).1 k),h2⟩
end
theorem Ri{ty sz:Nat}{g:Bool}{ob:Laa}(hs:Al nx sl=ζ)(hb:tZ nx ob=ζ)(hq:nxt nx=ς nx')(hR:Rel N cx E ⟨sl,ob,nx⟩ a w):
 Rel N cx {E with n:=λl=>l=nx\/E.n l} ⟨sl,(nx,.rown ty sz [] g)::ob,nx'⟩ a w:=by
 have hp:∀l,l<nx->((l=nx\/E.n l)↔E.n l):=λl h=>⟨λk=>k.resolve_left oaa,.inr⟩
 have hn:nx'=nx+1:=by
  unfold nxt at hq
  cases hr:rsv nx with
  |true=>simp_all
  |false=>simp_all
 refine⟨hR.ok.setN _,λo x h=>by have:=hR.dom o x h;grind,λl x hl=>?_,λk=>Xb hp (T3 k hs) (hR.sl k),hR.dfr,hR.size,λl b h=>by have:=hR.td l b h;grind⟩
 by_cases e:nx=l
 .subst e;rw[bX] at hl;cases hl;exact .inl ⟨.inl rfl,rfl⟩
 rw[bg _ _ e] at hl
 obtain⟨h1,h2⟩:=t0 hb hl
 exact Rh hp h1 h2 (hR.obs l x hl)
theorem aap{ob:Laa}(ty sz:Nat)(g:Bool)(hk:gt sl k= .v (.c .nil):=by exact rfl)(hs:Al nx sl=true:=by exact rfl)(hb:tZ nx ob=true:=by exact rfl)(hq:nxt nx=ς nx':=by exact rfl):
 cO N ⟨sl,ob,nx⟩ ⟨(k,.v (.c (.wn nx 0)))::sl,(nx,.rown ty sz [] g)::ob,nx'⟩:=by
 intro cx E a w hR
 have h:=Ri (ty:=ty) (sz:=sz) (g:=g) hs hb hq hR
 refine⟨_,h.ok,h.dom,h.obs,λj=>?_,h.dfr,h.size,h.td⟩
 by_cases e:k=j
 .subst e
  rw[da]
  have:=hR.sl k
  rw[hk] at this
  exact .inl ⟨.inl rfl,rfl,this⟩
 rw[ck _ _ e];exact h.sl j
def Gf:Nat->C->List C->Option (List C)
 |0,x,.nil::cs=>ς (x::cs)
 |j+1,x,c::cs=>match Gf j x cs with
  |some r=>ς (c::r)
  |none=>ξ
 |_,_,_=>ξ
theorem DH{E E':Env}{w:World}{x:C}(hx:cvC E' w x (.slice ξ 0 0)):∀{j:Nat} {cs cs':List C} {us:Lae},Gf j x cs=ς cs'->CV E w cs us->CV E' w cs us->CV E' w cs' us
 |0,.nil::cs,cs',us,h,h1,h2=>by
  simp[Gf] at h;subst h
  cases us with
  |nil=>exact h1.elim
  |cons u us=>have:u= .slice ξ 0 0:=h1.1;subst this;exact⟨hx,h2.2⟩
 |j+1,c::cs,cs',us,h,h1,h2=>by
  simp only[Gf] at h
  split at h
  .rename_i h3
   simp at h;subst h
   cases us with
   |nil=>exact h1.elim
   |cons u us=>exact⟨h2.1,DH hx h3 h1.2 h2.2⟩
  cases h
theorem aao{ob:Laa}{cs':List C}(ty sz:Nat)(g:Bool)(hk:gt sl k= .v (.agg cs):=by exact rfl)(hj:Gf j (.wn nx 0) cs=ς cs':=by exact rfl)(hs:Al nx sl=true:=by exact rfl)(hb:tZ nx ob=true:=by exact rfl)(hq:nxt nx=ς nx':=by exact rfl):
 cO N ⟨sl,ob,nx⟩ ⟨(k,.v (.agg cs'))::sl,(nx,.rown ty sz [] g)::ob,nx'⟩:=by
 intro cx E a w hR
 have h:=Ri (ty:=ty) (sz:=sz) (g:=g) hs hb hq hR
 refine⟨_,h.ok,h.dom,h.obs,λi=>?_,h.dfr,h.size,h.td⟩
 by_cases e:k=i
 .subst e
  rw[da]
  have h1:=hR.sl k
  have h2:=h.sl k
  rw[hk] at h1 h2
  obtain⟨arr,hu,h1⟩:=h1
  obtain⟨arr',hu',h2⟩:=h2
  rw[hu] at hu';cases hu'
  exact⟨arr,hu,DH (x:=.wn nx 0) (Or.inl ⟨Or.inl rfl,rfl,rfl⟩) hj h1 h2⟩
 rw[ck _ _ e];exact h.sl i
theorem An{o:Nat}{ob:Laa}{vt:TypeId}{cs':List C}(ty sz:Nat)(g:Bool)(ho:go ob o=ς (.var vt cs):=by exact rfl)(hj:Gf j (.wn nx 0) cs=ς cs':=by exact rfl)(hs:Al nx sl=true:=by exact rfl)(hb:tZ nx ob=true:=by exact rfl)(hq:nxt nx=ς nx':=by exact rfl):
 cO N ⟨sl,ob,nx⟩ ⟨sl,(o,.var vt cs')::(nx,.rown ty sz [] g)::ob,nx'⟩:=by
 intro cx E a w hR
 have h:=Ri (ty:=ty) (sz:=sz) (g:=g) hs hb hq hR
 refine⟨_,h.ok,h.dom,λl x hl=>?_,h.sl,h.dfr,h.size,h.td⟩
 by_cases e:o=l
 .subst e
  rw[bX] at hl;cases hl
  have hne:nx≠o:=λe=>by have:=(t0 hb ho).1;omega
  have h2:=h.obs o (.var vt cs) (by rw[bg _ _ hne];exact ho)
  obtain⟨b,c,arr,k1,k2,k3,k4⟩:=hR.obs o _ ho
  obtain⟨b',c',arr',m1,m2,m3,m4⟩:=h2
  have k1':E.r o=ς (b',c'):=m1
  rw[k1] at k1';cases k1'
  rw[k2] at m2;cases m2
  exact⟨b,c,arr,k1,k2,DH (x:=.wn nx 0) (Or.inl ⟨Or.inl rfl,rfl,rfl⟩) hj k3 m3,k4⟩
 rw[bg _ _ e] at hl;exact h.obs l x hl
section
variable{P:Program}{N:Nat}{d:Tmp}{ty:TypeId}{ps:String}{af:Array Edge}{gd:Option (Nat×Bool)}{x y z:Operand}{sl:Lab}{ob:Laa}{nx:Nat}
theorem Yw{d:Option Tmp}{o:Nat}[ht:dz P t e sz by_]:AWN P ⟨d,.call ⟨.builtin .len,#[x],#[t]⟩,ty,ps,af,gd⟩ [(x,.v (.c (.wn o n)))] [] (tI n) []:=
 cA λE ac w hn _=>by
  rcases hn x _ (.head _) with⟨_,h0,hu⟩|⟨_,b,c,hr,hu⟩
  .subst h0;exact⟨_,by simp[execOp,resolve,invoke,builtin,hu,Builtin.len_,underlying,ht.u,goInt];rfl,by rfl⟩
  exact⟨_,by simp[execOp,resolve,invoke,builtin,hu,Builtin.len_,underlying,ht.u,goInt];rfl,by rfl⟩
theorem lwn{o:Nat}[dz P t e sz by_](hx:opT sl x= .v (.c (.wn o n)))(hN:nlt d N=ζ):NS0 P N ⟨ς d,.call ⟨.builtin .len,#[x],#[t]⟩,ty,ps,af,gd⟩ sl ob nx d (tI n) ⟨d,[(x,.v (.c (.wn o n)))],[],tI n,[]⟩:=dx (st:=⟨sl,ob,nx⟩) Yw rfl hN ⟨hx,θ⟩ trivial rfl
theorem OM{o:Nat}{ys:Lad}{c:C}[ht:dz P t e sz by_](hrv:rsp o=η)(hnv:rsv st.nx=η)(hd:d<N)(hx:opT st.sl x= .v (.c (.wn o n)))(hy:opT st.sl y= .v (.c c))(ho:go st.ob o=ς (.rown e sz els g))(hs:Src st.ob c ys gy)(hk:nX o st.sl=ς sl')(hkb:jE o st.ob=ς ob')(hn:els.length=n)(hne:ys≠[])(hol:o<st.nx)(hsz:∀e∈ys,e.length=sz)(hb:(n+ys.length)*by_<=140737488355328)(h63:n+ys.length<=9223372036854775807):
 AWO P N ⟨ς d,.call ⟨.builtin .append,#[x,y],#[t,t]⟩,ty,ps,af,gd⟩ st ⟨(d,.v (.c (.w o (n+ys.length))))::sl',(o,.row e sz (els++ys) (g&&gy) ζ)::ob',st.nx⟩:=by
 intro cx E a w hR
 have h1:=hR.op x;rw[hx] at h1
 have h2:=hR.op y;rw[hy] at h2
 have h3:=hR.obs o _ ho
 rcases h1 with⟨hE,h0,hu⟩|⟨hE,b,cc,hr,hu⟩
 .subst h0
  have hels:els=[]:=adn hn
  subst hels
  have hq1:E.r st.nx=none:=by
   cases hq:E.r st.nx with
   |none=>rfl
   |some p=>have:=hR.dom _ _ hq;omega
  have hoq:o≠st.nx:=by omega
  refine Oper.wp_mono ?_ (FB (P:=P) (d:=d) (ty:=ty) (ps:=ps) (af:=af) (gd:=gd) (t:=t) (q:=st.nx) hs hne hsz (by simp_all) oaa hR.ok hR.obs hq1 hnv hu h2)
  rintro a' w' ⟨v,E1,rfl,ok1,ext,hv,hob1,hdom⟩
  obtain⟨bn,cap,hrq,hvu⟩:=hv
  obtain⟨bn',cap',arr,hrq',hhn,j3,j4,j5,j6,j7,j8,_⟩:=hob1 _ _ (.head _)
  rw[hrq] at hrq';cases hrq'
  have hrE:∀l p,E1.r l=ς p->l=st.nx\/E.r l=ς p:=λl p h=>by
   grind
  let E2:Env:={E1 with r:=λl=>if l=o then ς (bn,cap) else if l=st.nx then ξ else E1.r l,T:=λl b=>l≠st.nx/\E1.T l b,n:=λl=>l≠o/\E.n l}
  have hr2:∀l b c,E2.r l=ς (b,c)->(l=o/\b=bn/\c=cap)\/(l≠o/\l≠st.nx/\E1.r l=ς (b,c)):=by
   intro l b c h
   have h:(if l=o then ς (bn,cap) else if l=st.nx then ξ else E1.r l)=ς (b,c):=h
   split at h
   .simp_all
   simp_all
  have hback:∀l b c,E2.r l=ς (b,c)->∃l',E1.r l'=ς (b,c):=by
   intro l b c h
   rcases hr2 l b c h with⟨_,rfl,rfl⟩|⟨_,_,h⟩
   .grind
   grind
  have ok2:dr cx E2 w':=by
   refine⟨ok1.fb,ok1.gf,ok1.gn,λl b c h=>?_,λl l' b c c' h h'=>?_,ok1.os,ok1.tape,ok1.output,ok1.size,ok1.block,λl p hv h=>?_,ok1.ff,ok1.gc,⟨λl b h=>?_,λl l' b h h'=>ok1.sf.tt l l' b h.2 h'.2,λb h=>?_,ok1.sf.zs,ok1.sf.ze⟩⟩
   .rcases hr2 l b c h with⟨_,rfl,rfl⟩|⟨_,_,h⟩
    .obtain⟨k1,k2⟩:=ok1.rb _ _ _ hrq
     simp_all
    exact ok1.rb l b c h
   .rcases hr2 l b c h with⟨rfl,rfl,rfl⟩|⟨k1,k2,k3⟩<;>rcases hr2 l' _ c' h' with⟨rfl,e1,e2⟩|⟨m1,m2,m3⟩
    .rfl
    .exact absurd (ok1.inj _ _ _ _ _ m3 hrq) m2
    .subst e1;exact absurd (ok1.inj _ _ _ _ _ k3 hrq) k2
    exact ok1.inj _ _ _ _ _ k3 m3
   .obtain⟨b,c⟩:=p
    rcases hr2 l b c h with⟨rfl,_⟩|⟨_,_,h⟩
    .simp_all
    exact ok1.pin l _ hv h
   .obtain⟨k1,k2,k3,k4⟩:=ok1.sf.tb l b h.2
    grind
   obtain⟨k1,k2,k3,k4⟩:=ok1.sf.zc b h
   grind
  have kp:=iG.of_ext hR.ok ext
  have kb:eP o E w E2 w':=⟨λl p hl h=>by
   show(if l=o then ς (bn,cap) else if l=st.nx then ξ else E1.r l)=ς p
   rw[if_neg hl,if_neg (λe=>by simp_all)]
   exact kp.r _ _ h,kp.H,kp.heap,λl b h=>⟨⟨λe=>by have:=hR.td l b h;omega,(kp.T l b h).1⟩,(kp.T l b h).2⟩,kp.Z,λl hl=>⟨λh=>h.2,λh=>⟨hl,h⟩⟩⟩
  have hFb:∀b,b<w.heap.size->¬E.F b->¬E2.F b:=λb hb hn h=>(ext.F' b h).elim hn oaa
  refine⟨E2,ok2,λl p h=>?_,λl ob hl=>?_,λk=>?_,hR.dfr,by simpa [Act.put] using hR.size,λl b h=>(ext.T' l b h.2).elim (hR.td l b) λ⟨k0,x,k⟩=>(hrE _ _ k).elim (λe=>absurd e h.1) λe=>by rw[k0] at e;cases e⟩
  .obtain⟨b,c⟩:=p
   rcases hr2 l b c h with⟨rfl,_⟩|⟨_,k2,h⟩
   .exact hol
   rcases hrE _ _ h with h|h
   .omega
   exact hR.dom _ _ h
  .by_cases hlo:o=l
   .subst hlo
    rw[bX] at hl;cases hl
    refine⟨bn,cap,arr,by grind,hhn,j3,by simp_all,j5,by simp_all,?_,λ_=>j8 rfl,(λh=>by cases h),θ⟩
    simp only[adT]
    exact bP (λ_ _=>rfl) (λb hb=>by cases g<;>cases gy<;>first|exact hb|exact ok1.gf b hb) rfl _ _ j7
   rw[bg _ _ hlo] at hl
   rcases tG hkb hl with⟨t',cs,cs',k1,k2,rfl⟩|⟨t',sz',els',g',m',k1,rfl⟩|⟨t',sz',els',g',k1,rfl⟩|⟨j',y',k1,rfl⟩
   .obtain⟨bl,cl,arrl,l1,l2,l3,l4⟩:=hR.obs l _ k1
    have hbl:=(hR.ok.rb _ _ _ l1).1
    exact⟨bl,cl,arrl,kb.r _ _ (Ne.symm hlo) l1,(ext.heap bl hbl).trans l2,wj kb k2 l3,hFb bl hbl l4⟩
   .obtain⟨bl,cl,arrl,l1,l2,l3,l4,l5,l6,l7,l8,l9⟩:=hR.obs l _ k1
    have hbl:=(hR.ok.rb _ _ _ l1).1
    have hb2:=ext.heap bl hbl
    exact⟨bl,cl,arrl,kb.r _ _ (Ne.symm hlo) l1,hb2.trans l2,l3,l4,l5,l6,bP (kb.hp _) (kb.HH _) hb2 _ _ l7,λhm=>hFb bl hbl (l8 hm),λhm=>⟨kb.H η _ (l9.1 hm).1,λhg=>kb.H ζ _ ((l9.1 hm).2 hg)⟩,qY kb hb2 l9.2⟩
   .rcases hR.obs l _ k1 with⟨m1,m2⟩|⟨l0,bl,cl,arrl,l1,l2,l3,l4,l5,l6,l7,l8⟩
    .exact .inl ⟨⟨Ne.symm hlo,m1⟩,m2⟩
    have hbl:=(hR.ok.rb _ _ _ l1).1
    have hb2:=ext.heap bl hbl
    exact .inr ⟨λh=>l0 h.2,bl,cl,arrl,kb.r _ _ (Ne.symm hlo) l1,hb2.trans l2,l3,l4,l5,l6,bP (kb.hp _) (kb.HH _) hb2 _ _ l7,hFb bl hbl l8.1,qY kb hb2 l8.2⟩
   rcases hR.obs l _ k1 with⟨m1,m2⟩|⟨l0,bl,cl,l1,l2,l3⟩
   .exact .inl ⟨⟨Ne.symm hlo,m1⟩,m2⟩
   have hbl:=(hR.ok.rb _ _ _ l1).1
   have hb2:=ext.heap bl hbl
   exact .inr ⟨λh=>l0 h.2,bl,cl,kb.r _ _ (Ne.symm hlo) l1,y'.st _ _ _ _ _ _ l2 (λk hk=>(kb.T _ k hk).1) hb2 (λk hk=>(kb.T _ k hk).2),hFb bl hbl l3⟩
  rw[ef (by rw[hR.size];exact hd)]
  by_cases hdk:d=k
  .subst hdk;rw[da,if_pos rfl];exact⟨bn,cap,by grind,by simp_all⟩
  rw[ck _ _ hdk,if_neg hdk]
  rcases zl hk k with h|⟨h,h'⟩
  .rw[h];trivial
  rw[h];exact Gj kb h' (hR.sl k)
 rcases h3 with⟨hE',_⟩|⟨_,b',c',arr,hr',hh,ha,hlc,hmx,hes,hrd,hF⟩
 .simp_all
 rw[hr] at hr';cases hr'
 exact Fd hR hrv hd hr hu hh ha hlc hmx hes hrd hF.1 hy hs hk hkb hn hsz hb h63
variable{α:Type}{enc:α->List D}
theorem Up{o:Nat}{ys zs:List α}{zd:Lad}{gg:Bool}{c:C}[dz P t e sz by_](H:c8 by_ (ys++zs).length=ζ)(hne:zs≠[])(hzd:zs.map enc=zd)(henc:∀a,(enc a).length=sz)(hn:ys.length=n)(hs:Src ob c zd gy)(hd:nlt d N=ζ)(hx:opT sl x= .v (.c (.wn o n)))(hy:opT sl y= .v (.c c))(ho:go ob o=ς (.rown e sz (ys.map enc) g))(hk:nX o sl=ς sl')(hkb:jE o ob=ς ob')(hg:(g&&gy)=gg)(hrv:rsp o=η)(hnv:rsv nx=η)(hol:nlt o nx=ζ):
 AWO P N ⟨ς d,.call ⟨.builtin .append,#[x,y],#[t,t]⟩,ty,ps,af,gd⟩ ⟨sl,ob,nx⟩ ⟨(d,.v (.c (.w o (ys++zs).length)))::sl',(o,.row e sz ((ys++zs).map enc) gg ζ)::ob',nx⟩:=by
 subst hzd;subst hg
 simp only[c8,decide_eq_true_eq,ads] at H
 have:=OM (st:=⟨sl,ob,nx⟩) (P:=P) (N:=N) (d:=d) (ty:=ty) (ps:=ps) (af:=af) (gd:=gd) (t:=t) (e:=e) (sz:=sz) (by_:=by_) hrv hnv (bV hd) hx hy ho hs hk hkb (by simp_all) (by simp_all) (bV hol) (JN henc zs) (by simp_all) (by simp_all)
 simp_all
end
def Gc(p q:Nat):C->Option C
 | .w l n=>match fW l p,fW l q with
  |true,_=>ς .any
  |false,ζ=>ς (.w p n)
  |false,η=>ς (.w l n)
 | .wn l n=>match fW l p,fW l q with
  |true,_=>ς .any
  |false,ζ=>ς (.wn p n)
  |false,η=>ς (.wn l n)
 | .s l a b c=>match fW l p,fW l q with
  |true,_=>ς .any
  |false,ζ=>ς (.s p a b c)
  |false,η=>ς (.s l a b c)
 | .p l k=>match fW l p,fW l q with
  |true,_=>ς .any
  |false,ζ=>ς (.p p k)
  |false,η=>ς (.p l k)
 | .e l a b c=>match fW l p,fW l q with
  |true,_=>ς .any
  |false,ζ=>ς (.e p a b c)
  |false,η=>ς (.e l a b c)
 |c=>ς c
def EO(p q:Nat):Laa->Option Laa
 |[]=>ς []
 |(k,.var t cs)::r=>match fW k p,fW k q,lp (Gc p q) cs,EO p q r with
  |true,_,_,ς r'=>ς r'
  |false,ζ,ς cs',ς r'=>ς ((p,.var t cs')::r')
  |false,η,ς cs',ς r'=>ς ((k,.var t cs')::r')
  |_,_,_,_=>ξ
 |(k,.row t sz els g m)::r=>match fW k p,fW k q,EO p q r with
  |true,_,ς r'=>ς r'
  |false,ζ,ς r'=>ς ((p,.row t sz els g m)::r')
  |false,η,ς r'=>ς ((k,.row t sz els g m)::r')
  |_,_,_=>ξ
 |(k,.rown t sz els g)::r=>match fW k p,fW k q,EO p q r with
  |true,_,ς r'=>ς r'
  |false,ζ,ς r'=>ς ((p,.rown t sz els g)::r')
  |false,η,ς r'=>ς ((k,.rown t sz els g)::r')
  |_,_,_=>ξ
 |(k,.abs j y)::r=>match fW k p,fW k q,EO p q r with
  |true,_,ς r'=>ς r'
  |false,ζ,ς r'=>ς ((p,.abs j y)::r')
  |false,η,ς r'=>ς ((k,.abs j y)::r')
  |_,_,_=>ξ
def Env.ren(E:Env)(p q:Nat):Env:={E with r:=λl=>if l=p then E.r q else if l=q then ξ else E.r l,n:=λl=>if l=p then E.n q else E.n l}
def Pi(p q l:Nat):Nat:=if l=q then p else l
def ET(p q:Nat):Ob->Ob->Prop
 | .var t cs,y=>∃cs',lp (Gc p q) cs=ς cs'/\y= .var t cs'
 |x,y=>y=x
theorem MA{p q:Nat}(hpq:p≠q){l:Nat}{y:Ob}:∀{ob ob':Laa},EO p q ob=ς ob'->go ob' l=ς y->∃l0 x,l0≠p/\l=Pi p q l0/\go ob l0=ς x/\ET p q x y
 |[],ob',h,hy=>by simp[EO] at h;subst h;cases hy
 |(k,x)::r,ob',h,hy=>by
  have key:∀(x':Ob) (r':Laa),ET p q x x'->EO p q r=ς r'->(fW k p=ζ/\ob'=r')\/(fW k p=η/\fW k q=ζ/\ob'=(p,x')::r')\/(fW k p=η/\fW k q=η/\ob'=(k,x')::r')->
   ∃l0 x0,l0≠p/\l=Pi p q l0/\go ((k,x)::r) l0=ς x0/\ET p q x0 y:=by
   intro x' r' hx hr hc
   have hrec:go r' l=ς y->∃l0 x0,l0≠p/\l=Pi p q l0/\go r l0=ς x0/\ET p q x0 y:=λh=>MA hpq hr h
   rcases hc with⟨h1,rfl⟩|⟨h1,h2,rfl⟩|⟨h1,h2,rfl⟩
   .obtain⟨l0,x0,a1,a2,a3,a4⟩:=hrec hy
    have:=aat h1
    subst this
    exact⟨l0,x0,a1,a2,by rw[bg _ _ (Ne.symm a1)];exact a3,a4⟩
   .have:=aat h2
    subst this
    by_cases e:p=l
    .subst e
     rw[bX] at hy;cases hy
     exact⟨k,x,hP h1,by simp[Pi],bX _ _ _,hx⟩
    rw[bg _ _ e] at hy
    obtain⟨l0,x0,a1,a2,a3,a4⟩:=hrec hy
    have hl0:k≠l0:=λe'=>e (by rw[a2,<-e'];simp[Pi])
    exact⟨l0,x0,a1,a2,by rw[bg _ _ hl0];exact a3,a4⟩
   have hkp:=hP h1
   have hkq:=hP h2
   by_cases e:k=l
   .subst e
    rw[bX] at hy;cases hy
    exact⟨k,x,hkp,by simp[Pi,hkq],bX _ _ _,hx⟩
   rw[bg _ _ e] at hy
   obtain⟨l0,x0,a1,a2,a3,a4⟩:=hrec hy
   have hl0:k≠l0:=λe'=>e (by rw[a2,<-e'];simp[Pi,hkq])
   exact⟨l0,x0,a1,a2,by rw[bg _ _ hl0];exact a3,a4⟩
  cases x with
  |var t cs=>
   simp only[EO] at h
   split at h
   .rename_i h1 h2
    cases h
    cases hm:lp (Gc p q) cs with
    |some cs'=>exact key (.var t cs') _ ⟨cs',hm,rfl⟩ h2 (.inl ⟨h1,rfl⟩)
    |none=>
     obtain⟨l0,x0,a1,a2,a3,a4⟩:=MA hpq h2 hy
     have:=aat h1
     subst this
     exact⟨l0,x0,a1,a2,by rw[bg _ _ (Ne.symm a1)];exact a3,a4⟩
   .rename_i h1 h2 h3 h4;cases h;exact key _ _ ⟨_,h3,rfl⟩ h4 (.inr (.inl ⟨h1,h2,rfl⟩))
   .rename_i h1 h2 h3 h4;cases h;exact key _ _ ⟨_,h3,rfl⟩ h4 (.inr (.inr ⟨h1,h2,rfl⟩))
   cases h
  |row t sz els g m=>
   simp only[EO] at h
   split at h
   .rename_i h1 h2;cases h;exact key _ _ (show ET p q (.row t sz els g m) (.row t sz els g m) from rfl) h2 (.inl ⟨h1,rfl⟩)
   .rename_i h1 h2 h3;cases h;exact key _ _ (show ET p q (.row t sz els g m) (.row t sz els g m) from rfl) h3 (.inr (.inl ⟨h1,h2,rfl⟩))
   .rename_i h1 h2 h3;cases h;exact key _ _ (show ET p q (.row t sz els g m) (.row t sz els g m) from rfl) h3 (.inr (.inr ⟨h1,h2,rfl⟩))
   cases h
  |rown t sz els g=>
   simp only[EO] at h
   split at h
   .rename_i h1 h2;cases h;exact key _ _ (show ET p q (.rown t sz els g) (.rown t sz els g) from rfl) h2 (.inl ⟨h1,rfl⟩)
   .rename_i h1 h2 h3;cases h;exact key _ _ (show ET p q (.rown t sz els g) (.rown t sz els g) from rfl) h3 (.inr (.inl ⟨h1,h2,rfl⟩))
   .rename_i h1 h2 h3;cases h;exact key _ _ (show ET p q (.rown t sz els g) (.rown t sz els g) from rfl) h3 (.inr (.inr ⟨h1,h2,rfl⟩))
   cases h
  |abs j z=>
   simp only[EO] at h
   split at h
   .rename_i h1 h2;cases h;exact key _ _ (show ET p q (.abs j z) (.abs j z) from rfl) h2 (.inl ⟨h1,rfl⟩)
   .rename_i h1 h2 h3;cases h;exact key _ _ (show ET p q (.abs j z) (.abs j z) from rfl) h3 (.inr (.inl ⟨h1,h2,rfl⟩))
   .rename_i h1 h2 h3;cases h;exact key _ _ (show ET p q (.abs j z) (.abs j z) from rfl) h3 (.inr (.inr ⟨h1,h2,rfl⟩))
   cases h
theorem Jo{ob:Laa}(p q:Nat)(hp:rsp p=false:=by exact rfl)(hq:rsv q=false:=by exact rfl)(hpq:fW p q=false:=by exact rfl)(hpn:nlt p nx=true:=by exact rfl)(hs:pZ (Gc p q) sl=ς sl':=by exact rfl)(hb:EO p q ob=ς ob':=by exact rfl):cO N ⟨sl,ob,nx⟩ ⟨sl',ob',nx⟩:=by
 have hne:=hP hpq
 intro cx E a w hR
 have hrp:(E.ren p q).r p=E.r q:=by simp[Env.ren]
 have hrl:∀l,l≠p->l≠q->(E.ren p q).r l=E.r l:=λl h1 h2=>by simp[Env.ren,h1,h2]
 have hnp:(E.ren p q).n p=E.n q:=by simp[Env.ren]
 have hnl:∀l,l≠p->(E.ren p q).n l=E.n l:=λl h1=>by simp[Env.ren,h1]
 have hr2:∀l b c,(E.ren p q).r l=ς (b,c)->(l=p/\E.r q=ς (b,c))\/(l≠p/\l≠q/\E.r l=ς (b,c)):=by
  intro l b c h
  simp only[Env.ren] at h
  split at h
  .simp_all
  simp_all
 have hf:∀c c' u,Gc p q c=ς c'->cvC E w c u->cvC (E.ren p q) w c' u:=by
  intro c c' u h hc
  cases c with
  |w l n=>
   simp only[Gc] at h
   split at h
   .cases h;trivial
   .rename_i h1 h2;cases h;have:=aat h2;subst this;obtain⟨b,k,h3,h4⟩:=hc;exact⟨b,k,hrp.trans h3,h4⟩
   rename_i h1 h2;cases h;obtain⟨b,k,h3,h4⟩:=hc;exact⟨b,k,(hrl _ (hP h1) (hP h2)).trans h3,h4⟩
  |wn l n=>
   simp only[Gc] at h
   split at h
   .cases h;trivial
   .rename_i h1 h2;cases h;have:=aat h2;subst this
    rcases hc with⟨h3,h4⟩|⟨h3,b,k,h5,h6⟩
    .exact .inl ⟨by simp_all,h4⟩
    exact .inr ⟨by simp_all,b,k,hrp.trans h5,h6⟩
   rename_i h1 h2;cases h
   rcases hc with⟨h3,h4⟩|⟨h3,b,k,h5,h6⟩
   .exact .inl ⟨by rw[hnl _ (hP h1)];exact h3,h4⟩
   exact .inr ⟨by rw[hnl _ (hP h1)];exact h3,b,k,(hrl _ (hP h1) (hP h2)).trans h5,h6⟩
  |s l a1 a2 a3=>
   simp only[Gc] at h
   split at h
   .cases h;trivial
   .rename_i h1 h2;cases h;have:=aat h2;subst this;obtain⟨A,c,b,k,h3,h4⟩:=hc;exact⟨A,c,b,k,hrp.trans h3,h4⟩
   rename_i h1 h2;cases h;obtain⟨A,c,b,k,h3,h4⟩:=hc;exact⟨A,c,b,k,(hrl _ (hP h1) (hP h2)).trans h3,h4⟩
  |p l n=>
   simp only[Gc] at h
   split at h
   .cases h;trivial
   .rename_i h1 h2;cases h;have:=aat h2;subst this;obtain⟨b,k,h3,h4⟩:=hc;exact⟨b,k,hrp.trans h3,h4⟩
   rename_i h1 h2;cases h;obtain⟨b,k,h3,h4⟩:=hc;exact⟨b,k,(hrl _ (hP h1) (hP h2)).trans h3,h4⟩
  |e l a1 a2 a3=>
   simp only[Gc] at h
   split at h
   .cases h;trivial
   .rename_i h1 h2;cases h;have:=aat h2;subst this;obtain⟨b,k,h3,h4⟩:=hc;exact⟨b,k,hrp.trans h3,h4⟩
   rename_i h1 h2;cases h;obtain⟨b,k,h3,h4⟩:=hc;exact⟨b,k,(hrl _ (hP h1) (hP h2)).trans h3,h4⟩
  |_=>simp only[Gc] at h;cases h;exact hc
 have ok:=hR.ok
 have hback:∀l b c,(E.ren p q).r l=ς (b,c)->∃l',E.r l'=ς (b,c):=λl b c h=>(hr2 l b c h).elim (λh=>⟨q,h.2⟩) (λh=>⟨l,h.2.2⟩)
 refine⟨E.ren p q,⟨ok.fb,ok.gf,ok.gn,λl b c h=>?_,λl l' b c c' h h'=>?_,ok.os,ok.tape,ok.output,ok.size,ok.block,λl x hv h=>?_,ok.ff,ok.gc,⟨λl b h=>?_,ok.sf.tt,λb h=>?_,ok.sf.zs,ok.sf.ze⟩⟩,λl x h=>?_,λl y hl=>?_,λk=>AT hf hs (hR.sl k),hR.dfr,hR.size,hR.td⟩
 .rcases hr2 l b c h with⟨_,h⟩|⟨_,_,h⟩
  .obtain⟨k1,k2⟩:=ok.rb _ _ _ h
   simp_all
  exact ok.rb l b c h
 .rcases hr2 l b c h with⟨rfl,k3⟩|⟨k1,k2,k3⟩<;>rcases hr2 l' b c' h' with⟨e,m3⟩|⟨m1,m2,m3⟩
  .exact e.symm
  .exact absurd (ok.inj _ _ _ _ _ m3 k3) m2
  .exact absurd (ok.inj _ _ _ _ _ k3 m3) k2
  exact ok.inj _ _ _ _ _ k3 m3
 .obtain⟨b,c⟩:=x
  rcases hr2 l b c h with⟨rfl,_⟩|⟨_,_,h⟩
  .simp_all
  exact ok.pin l _ hv h
 .obtain⟨k1,k2,k3,k4⟩:=ok.sf.tb l b h
  exact⟨k1,k2,λl' c hl=>(hback l' b c hl).elim λl'' h''=>k3 l'' c h'',k4⟩
 .obtain⟨k1,k2,k3,k4⟩:=ok.sf.zc b h
  exact⟨k1,k2,λl' c hl=>(hback l' b c hl).elim λl'' h''=>k3 l'' c h'',k4⟩
 .obtain⟨b,c⟩:=x
  rcases hr2 l b c h with⟨rfl,_⟩|⟨_,_,h⟩
  .exact bV hpn
  exact hR.dom l _ h
 obtain⟨l0,x,a1,a2,a3,a4⟩:=MA hne hb hl
 have hx:=hR.obs l0 x a3
 have hlab:(E.ren p q).r l=E.r l0/\(E.ren p q).n l=E.n l0:=by
  subst a2
  unfold Pi
  split
  .simp_all
  simp_all
 cases x with
 |var t cs=>
  obtain⟨cs',h1,rfl⟩:=a4
  obtain⟨b,c,arr,k1,k2,k3,k4⟩:=hx
  exact⟨b,c,arr,hlab.1.trans k1,k2,tT hf h1 k3,k4⟩
 |row t sz els g m=>
  have a4:y= .row t sz els g m:=a4
  subst a4
  obtain⟨b,c,arr,k1,k2⟩:=hx
  exact⟨b,c,arr,hlab.1.trans k1,k2⟩
 |rown t sz els g=>
  have a4:y= .rown t sz els g:=a4
  subst a4
  rcases hx with⟨h1,h2⟩|⟨h1,b,c,arr,k1,k2⟩
  .exact .inl ⟨by simp_all,h2⟩
  exact .inr ⟨by simp_all,b,c,arr,hlab.1.trans k1,k2⟩
 |abs j z=>
  have a4:y= .abs j z:=a4
  subst a4
  rcases hx with⟨h1,h2⟩|⟨h1,b,c,k1,k2⟩
  .exact .inl ⟨by simp_all,h2⟩
  exact .inr ⟨by simp_all,b,c,hlab.1.trans k1,k2⟩
structure VIn(E:Env)(w:World):Prop where
 fb:∀b,E.F b->b<w.heap.size
 gf:∀b,E.G b->E.F b
 rb:∀o b c,E.r o=ς (b,c)->b<w.heap.size/\rsv o=ζ/\¬E.F b
 inj:∀o o' b c c',E.r o=ς (b,c)->E.r o'=ς (b,c')->o=o'
 T:∀l b,E.T l b->b<w.heap.size/\¬E.F b/\(∀o c,E.r o≠ς (b,c))/\fR w b/\l<210
 tt:∀l l' b,E.T l b->E.T l' b->l=l'
 ts:∀k∈qD,∀l,¬E.T l k
 Z:∀b,¬E.Z b
structure VOut(E:Env)(w:World)(E':Env)(w':World):Prop where
 past:GR w w' (λk=>(∃o c,E.r o=ς (k,c))\/∃l,E.T l k)
 fb:∀b,E'.F b->b<w'.heap.size
 f0:∀b,E'.F b->E.F b\/((w.heap.size<=b\/∃l,E.T l b)/\fR w' b)
 F:∀b,E.F b->E'.F b
 G:∀b,E.G b->E'.G b
 gf:∀b,E'.G b->E'.F b
 g0:∀b,E'.G b->w.heap.size<=b\/E.G b\/∃l,E.T l b
 rb:∀o b c,E'.r o=ς (b,c)->b<w'.heap.size/\((w.heap.size<=b\/∃l,E.T l b)\/((∃o' c',E.r o'=ς (b,c'))/\rsv o=ζ))
 inj:∀o o' b c c',E'.r o=ς (b,c)->E'.r o'=ς (b,c')->o=o'
 pin:∀o x,rsp o=ζ->E'.r o=ς x->E.r o=ς x
 T:∀l b,E'.T l b->(b<w'.heap.size/\(w.heap.size<=b\/∃l',E.T l' b))/\¬E'.F b/\(∀o c,E'.r o≠ς (b,c))/\fR w' b
 tt:∀l l' b,E'.T l b->E'.T l' b->l=l'
structure FnV(P:Program)(f:FuncId)(xs:Laa)(args:List T)(ys:Laa)(out:T)(nw:Laa):Prop where
 enters:∀(vs:Array Value) (w:World),(callFunc f vs).run P w= .ok (.enter f vs) w
 calls:∀(E:Env) (w:World) (vals:Array Value),VIn E w->TabsIn w->(∀k∈qD,∀o c,E.r o≠ς (k,c))->(∀l x,go xs l=ς x->cN E w l x)->TV E w args vals.toList->
  Calls P f vals w λe w'=>∃v E',e= .returned v/\VOut E w E' w'/\cvT E' w' out v/\(∀l y,go ys l=ς y->cN E' w' l y)/\(∀l y,go nw l=ς y->cN E' w' l y)
def Vs:List V->T
 |[v]=>.v v
 |vs=>.tup vs
def LoA(ob:Laa):Laa->Prop
 |[]=>True
 |(l,x)::r=>go ob l=ς x/\LoA ob r
theorem Qe{ob:Laa}:∀{l:Laa} {k:Nat} {x:Ob},LoA ob l->go l k=ς x->go ob k=ς x
 |(j,y)::r,k,x,h,hg=>by
  by_cases e:j=k
  .subst e;rw[bX] at hg;cases hg;exact h.1
  rw[bg _ _ e] at hg;exact Qe h.2 hg
def tf(N:Nat)(P:Program)(rs:List ResultVar)(ys:Laa)(out:T)(nw:Laa):Exit->St->Prop
 | .ret,s| .normal,s=>∃s' vs,cO N s s'/\jN P s' rs vs/\Vs vs=out/\LoA s'.ob ys/\LoA s'.ob nw
 |_,_=>False
instance {N:Nat} {P:Program} {rs:List ResultVar} {ys:Laa} {out:T} {nw:Laa}:Clo N (tf N P rs ys out nw):=⟨λe s m hw h=>by
 cases e<;>simp only[tf] at h ⊢<;>first|exact h|(obtain⟨s',vs,h1,h2⟩:=h;exact⟨s',vs,aK hw h1,h2⟩)⟩
theorem NA{e:Exit}{m:St}(hw:cO N s m)(h:vW N P rs res e m):vW N P rs res e s:=Clo.h (N:=N) _ _ _ hw h
theorem clo_pw{e:Exit}{m:St}(hw:cO N s m)(h:yp N P rs res y e m):yp N P rs res y e s:=Clo.h (N:=N) _ _ _ hw h
theorem Kh{nw:Laa}{e:Exit}{m:St}(hw:cO N s m)(h:tf N P rs ys out nw e m):tf N P rs ys out nw e s:=Clo.h (N:=N) _ _ _ hw h
theorem eo{out':T}{nw:Laa}{vs:List V}(h:jN P s rs vs:=by repeat' (first|exact .nil|apply jN.cons|exact .tmp rfl|exact .cell rfl rfl rfl|exact .cell1 rfl rfl))(ho:Vs vs=out':=by exact rfl)(e:out'=out:=by first|rfl|simp)(hy:LoA s.ob ys:=by repeat (first|exact θ|refine⟨rfl,?_⟩))(hn:LoA s.ob nw:=by repeat (first|exact θ|refine⟨rfl,?_⟩)):tf N P rs ys out nw .ret s:=by
 subst e;exact⟨s,vs,mu s,h,ho,hy,hn⟩
theorem tw{out':T}{nw:Laa}{vs:List V}(h:jN P s rs vs:=by repeat' (first|exact .nil|apply jN.cons|exact .tmp rfl|exact .cell rfl rfl rfl|exact .cell1 rfl rfl))(ho:Vs vs=out':=by exact rfl)(e:out'=out:=by first|rfl|simp)(hy:LoA s.ob ys:=by repeat (first|exact θ|refine⟨rfl,?_⟩))(hn:LoA s.ob nw:=by repeat (first|exact θ|refine⟨rfl,?_⟩)):tf N P rs ys out nw .normal s:=by
 subst e;exact⟨s,vs,mu s,h,ho,hy,hn⟩
theorem rsv_lt{o:Nat}(h:rsv o=ζ):o<210:=by
 simp only[rsv,nlt,f4,Nat.ble_eq] at h;omega
theorem XJ{fn:Func}{c:Code}{xs:Laa}{args:List T}{nw:Laa}{sl0:Lab}(hf:P.funcs[f]?=ς fn)(hb:fn.body=ς c:=by exact rfl)(hnm:(fn.name== "runtime.NumGoroutine")=false:=by kernel_rfl)(hN:fn.ntmps=N)(hrs:fn.results.toList=rs:=by exact rfl)(ha:abD args.length N=true:=by exact rfl)(hs:Cy 0 args=sl0:=by exact rfl)(h:AWC P N c ⟨sl0,xs,210⟩ (tf N P rs ys out nw)):FnV P f xs args ys out nw:=by
 subst hs
 refine⟨λvs w=>by simp[callFunc,hf,hb];simp_all,λE w vals hI hT hTb hx hA=>?_⟩
 subst hrs
 refine calls_of_wp hf hb ?_
 obtain⟨h1,h2⟩:=Ls 0 hA
 have hle:args.length<=N:=adp ha
 have hsz:vals.size=args.length:=by simpa using h1
 have hR:Rel N ⟨w,λk=>(∃o c,E.r o=ς (k,c))\/∃l,E.T l k,E.r,λk=>E.F k\/∃l,E.T l k,λ_=>False,⟨hT,λk hk h=>h.elim (λ⟨o,c,h⟩=>hTb k hk o c h) (λ⟨l,h⟩=>hI.ts k hk l h)⟩,λk=>E.G k\/∃l,E.T l k⟩ E ⟨Cy 0 args,xs,210⟩ {tmps:=vals++abw (fn.ntmps-vals.size) undef,defers:=[]} w:=by
  refine⟨⟨hI.fb,hI.gf,λ_ h=>.inr (.inl h),λo k k' h=>?_,hI.inj,rfl,rfl,rfl,abk _,λ_ _ _=>rfl,λ_ _ _ h=>h,λ_ h=>.inl (.inl h),λb h h'=>absurd (hI.fb b h) (aec.2 (h'.resolve_right λk=>k.1.elim (λ⟨o,c,k⟩=>(hI.rb o b c k).2.2 h) (λ⟨l,k⟩=>(hI.T l b k).2.1 h))),⟨λl b h=>?_,hI.tt,λ_ h=>h.elim,λ_ h=>h.elim,λb h=>absurd h (hI.Z b)⟩⟩,λo p h=>?_,λo ob h=>hx o ob h,λk=>?_,rfl,by simp;omega,λl b h=>(hI.T l b h).2.2.2.2⟩
  .obtain⟨k1,k2,_⟩:=hI.rb o k k' h;exact⟨k1,.inr ⟨.inl ⟨_,_,h⟩,k2⟩⟩
  .obtain⟨k1,k2,k3,k4,_⟩:=hI.T l b h
   exact⟨⟨k1,.inr ⟨.inr ⟨_,h⟩,.inr ⟨_,h⟩,.inr ⟨_,h⟩,id⟩⟩,k2,k3,k4⟩
  .exact rsv_lt (hI.rb o p.1 p.2 h).2.1
  by_cases hk:k<args.length
  .obtain⟨u,h3,h4⟩:=(h2 k).1 ⟨abm _,by omega⟩
   have:(vals++abw (fn.ntmps-vals.size) undef).getD k undef=u:=by
    have h5:vals[k]?=ς u:=by simpa using h3
    have h6:(vals++abw (fn.ntmps-vals.size) undef)[k]?=ς u:=by rw[aeh oaa];exact h5
    simp[h6]
   simp_all
  have:=(h2 k).2 oaa
  show cvT _ w (gt (Cy 0 args) k) _
  rw[this];trivial
 refine wp_mono (h _ _ _ w hR) ?_
 rintro e a' w' ⟨E',s',hR',hq⟩
 have fin:(∃s'' vs,cO N s' s''/\jN P s'' fn.results.toList vs/\Vs vs=out/\LoA s''.ob ys/\LoA s''.ob nw)->
  a'.defers=[]/\∃v,(results fn a'.tmps).run P w'= .ok v w'/\∃v' E',Ending.returned v= .returned v'/\VOut E w E' w'/\cvT E' w' out v'/\(∀l y,go ys l=ς y->cN E' w' l y)/\(∀l y,go nw l=ς y->cN E' w' l y):=by
  rintro⟨s'',vs,hw,hres,ho,hys,hnw⟩
  obtain⟨E'',hR''⟩:=hw _ _ _ _ hR'
  have ok:=hR''.ok
  obtain⟨us,k1,k2⟩:=Ct hR'' hres
  have hm:(fn.results.mapM (rN a'.tmps)).run P w'= .ok us.toArray w':=by
   rw[<-Array.toArray_toList (xs:=fn.results),List.mapM_toArray]
   simp only[Sem.run_map,k1]
   rfl
  have hrr:results fn a'.tmps=(fn.results.mapM (rN a'.tmps))>>= λvs=>pure (if h:vs.size=1 then vs[0] else .tuple vs):=rfl
  have hv:∃v,(results fn a'.tmps).run P w'= .ok v w'/\cvT E'' w' out v:=by
   subst ho
   match vs,us,k2 with
   |[],[],_=>exact⟨.tuple #[],by simp_all,#[],rfl,θ⟩
   |[v],[u],k2=>exact⟨u,by simp_all,k2.1⟩
   |v1::v2::vs,u1::u2::us,k2=>exact⟨.tuple (u1::u2::us).toArray,by simp_all,_,rfl,k2⟩
  obtain⟨v,q1,q2⟩:=hv
  have hWF:∀b,((∃o c,E.r o=ς (b,c))\/∃l,E.T l b)->¬E.F b:=λb h=>h.elim (λ⟨o,c,k⟩=>(hI.rb o b c k).2.2) (λ⟨l,k⟩=>(hI.T l b k).2.1)
  have hk:iG E'' w' {E'' with F:=λb=>E''.F b\/E.F b,G:=λb=>E''.G b\/E.G b} w':=⟨λ_ _ h=>h,λg b h=>by cases g<;>exact Or.inl h,λ_ _ _=>rfl,λ_ _ h=>⟨h,rfl⟩,λ_ h=>⟨h,.refl _ _⟩,rfl⟩
  have hob:∀l y,go s''.ob l=ς y->cN {E'' with F:=λb=>E''.F b\/E.F b,G:=λb=>E''.G b\/E.G b} w' l y:=λl y h=>
   fG hk (λ_ _ _=>rfl) (λb c hr hn hF=>hF.elim hn (λhF=>by
    have h1:=hI.fb b hF
    rcases ok.rw hr with k|k
    .exact aec.2 k h1
    exact hWF b k hF)) (hR''.obs l y h)
  refine⟨hR''.dfr,v,q1,v,{E'' with F:=λb=>E''.F b\/E.F b,G:=λb=>E''.G b\/E.G b},rfl,⟨⟨ok.os,ok.tape,ok.output,ok.size,ok.block⟩,λb h=>h.elim (ok.fb b) (λh=>by have:=hI.fb b h;have:=ok.size;grind),λb h=>h.elim (λh=>(ok.ff b h).elim (λk=>k.elim .inl (λk=>.inr ⟨.inr k,ok.gc b h (.inr ⟨.inr k,.inr k,.inr k,id⟩)⟩)) (λk=>.inr ⟨.inl k,ok.gc b h (.inl k)⟩)) .inl,λb h=>.inr h,λb h=>.inr h,λb h=>h.imp (ok.gf b) (hI.gf b),λb h=>h.elim (ok.gn b) (λh=>.inr (.inl h)),λo b c h=>?_,ok.inj,λo x hv h=>?_,λl b h=>?_,ok.sf.tt⟩,?_,?_,?_⟩
  .obtain⟨m1,m2⟩:=ok.rb o b c h
   refine⟨m1,?_⟩
   rcases m2 with(m|⟨m,k,_⟩)|⟨m,k⟩
   .exact .inl (.inl m)
   .exact .inl (.inr (m.elim (λ⟨o,c,h⟩=>k.elim (λk=>absurd (hI.gf b k) (hI.rb o b c h).2.2) id) id))
   exact m.elim (λm=>.inr ⟨m,k⟩) (λm=>.inl (.inr m))
  .exact ok.pin o x hv h
  .obtain⟨⟨h1,h2⟩,h3,h4,h5⟩:=ok.sf.tb l b h
   refine⟨⟨h1,h2.imp id λk=>?_⟩,λhf=>hf.elim h3 λhf=>h2.nw.elim (λk=>aec.2 k (hI.fb b hf)) (λk=>hWF b k hf),h4,h5⟩
   exact k.2.1.elim (λq=>absurd (hI.gf b q) (hWF b k.1)) id
  .exact jx hk q2
  .exact λl y h=>hob l y (Qe hys h)
  exact λl y h=>hob l y (Qe hnw h)
 cases e with
 |normal=>exact fin hq
 |ret=>exact fin hq
 |_=>exact hq.elim
def cf:Lac->Nat->Option Nat
 |[],_=>ξ
 |(a,b)::r,n=>match fW a n with
  |true=>ς b
  |false=>cf r n
def inv:Lac->Lac
 |[]=>[]
 |(a,b)::r=>(b,a)::inv r
theorem c9{a b:Nat}:∀{m:Lac},cf m a=ς b->(a,b)∈m
 |(x,y)::r,h=>by
  simp only[cf] at h
  split at h
  .simp_all
  exact .tail _ (c9 h)
theorem fD{a b:Nat}:∀{m:Lac},(m.map (·.1)).Nodup->(a,b)∈m->cf m a=ς b
 |(x,y)::r,hn,h=>by
  simp only[cf]
  simp only[adU,adH] at hn
  rcases aa2.1 h with e|h
  .cases e;simp
  have hne:x≠a:=λe=>hn.1 (by simp_all)
  rw[gQ hne];exact fD hn.2 h
theorem mn{a b:Nat}:∀{m:Lac},(b,a)∈inv m↔(a,b)∈m
 |[]=>by simp[inv]
 |(x,y)::r=>by
  simp only[inv,aa2,Prod.mk.injEq,mn (m:=r)]
  grind
theorem tE:∀(m:Lac),(inv m).map (·.1)=m.map (·.2)
 |[]=>rfl
 |(x,y)::r=>by simp[inv,tE r]
def rlC(m:Lac):C->Option C
 | .d (.b g) x=>ς (.d g x)
 | .nil=>ς .nil
 | .any=>ς .any
 | .fn f=>ς (.fn f)
 | .w l n=>match cf m l with
  |some k=>ς (.w k n)
  |none=>ξ
 | .wn l n=>match cf m l with
  |some k=>ς (.wn k n)
  |none=>ξ
 | .p l j=>match cf m l with
  |some k=>ς (.p k j)
  |none=>ξ
 | .s l x y z=>match cf m l with
  |some k=>ς (.s k x y z)
  |none=>ξ
 |_=>ξ
def rlB(ob:Laa)(m:Lac):C->Option C
 | .d (.b g) x=>ς (.d g x)
 | .nil=>ς .nil
 | .any=>ς .any
 | .fn f=>ς (.fn f)
 | .w l n=>match cf m l,go ob l with
  |some k,ς (.row ..)=>ς (.w k n)
  |_,_=>ξ
 | .wn l n=>match cf m l,go ob l with
  |some k,ς (.rown ..)=>ς (.wn k n)
  |_,_=>ξ
 | .p l j=>match cf m l,go ob l with
  |some k,ς (.var ..)=>ς (.p k j)
  |_,_=>ξ
 |_=>ξ
def agC(up:Bool)(ob:Laa)(m:Lac):C->Option C
 | .d (.b g) x=>ς (.d (up&&g) x)
 | .nil=>ς (.d up (.l []))
 |c=>rlB ob m c
def tU(f:C->Option C):List T->Option (List T)
 |[]=>ς []
 |c::cs=>match xP f c,tU f cs with
  |some x,ς xs=>ς (x::xs)
  |_,_=>ξ
def ER(f:C->Option C):Ob->Option Ob
 | .var t cs=>match lp f cs with
  |some cs'=>ς (.var t cs')
  |none=>ξ
 | .row t sz els (.b g) ζ=>ς (.row t sz els g ζ)
 | .row .. =>ξ
 | .rown t sz els (.b g)=>ς (.rown t sz els g)
 | .rown .. =>ξ
 | .abs _ _=>ξ
def Dq(mi:Lac)(ob:Laa):Lac->Option Laa
 |[]=>ς []
 |(k,o)::r=>match go ob o with
  |some x=>match ER (rlB ob mi) x,Dq mi ob r with
   |some y,ς ys=>ς ((k,y)::ys)
   |_,_=>ξ
  |none=>ξ
def wz(m:Lac):Laa->Option Laa
 |[]=>ς []
 |(k,x)::r=>match cf m k,ER (rlC m) x,wz m r with
  |some o,ς y,ς ys=>ς ((o,y)::ys)
  |_,_,_=>ξ
def kvC(mi:Lac):C->Option C
 | .w l n=>match cf mi l with
  |some _=>ς .any
  |none=>ς (.w l n)
 | .wn l n=>match cf mi l with
  |some _=>ς .any
  |none=>ς (.wn l n)
 | .s l a b c=>match cf mi l with
  |some _=>ς .any
  |none=>ς (.s l a b c)
 | .e l a b c=>match cf mi l with
  |some _=>ς .any
  |none=>ς (.e l a b c)
 | .p l j=>match cf mi l with
  |some k=>match rsp k with
   |true=>ς (.p l j)
   |false=>ς .any
  |none=>ς (.p l j)
 |c=>ς c
def XR(ys:Laa)(k:Nat):Bool:=match go ys k with
 |some (.var ..)=>ζ
 |_=>η
def NB(nx:Nat):Lac->Nat->Bool
 |[],n=>fW n nx
 |(k,o)::r,n=>((fW o nx&&!rsv nx)&&!rsv k)&&NB (nx+1) r n
def mOK(m nl:Lac)(nx n:Nat)(ys:Laa):Bool:=
 ((kh ((m++nl).map (·.1))&&kh ((m++nl).map (·.2)))&&(m.all (λp=>rsv p.1&&nlt p.2 nx)&&NB nx nl n))&&
  ((m.all (λp=>rsp p.1||rsv p.2)||m.all (λp=>rsp p.1||!rsv p.2))&&m.all (λp=>(!rsp p.2||rsp p.1)&&((!rsp p.1||XR ys p.1)&&(go ys p.1).isSome)))
theorem CC:∀{nl:Lac} {nx n:Nat},NB nx nl n=ζ->nx<=n/\∀k o,(k,o)∈nl->nx<=o/\o<n/\rsv o=η/\rsv k=η
 |[],nx,n,h=>by have:=aat h;simp_all
 |(k,o)::r,nx,n,h=>by
  simp only[NB,f4,ac8] at h
  obtain⟨⟨⟨h1,h2⟩,h3⟩,h4⟩:=h
  have:=aat h1
  subst this
  obtain⟨k1,k2⟩:=CC h4
  grind
theorem Ij{f:C->Option C}{E E':Env}{w w':World}(hf:∀c c' u,f c=ς c'->cvC E w c u->cvC E' w' c' u){a:Act}:∀{ts ts':List T} {args:List Operand},tU f ts=ς ts'->ts.length=args.length->(∀x t,(x,t)∈args.zip ts->cvT E w t (a.eval x))->TV E' w' ts' (args.map a.eval)
 |[],ts',args,h,hl,hn=>by
  simp[tU] at h;subst h
  cases args with
  |nil=>trivial
  |cons _ _=>simp at hl
 |t::ts,ts',args,h,hl,hn=>by
  simp only[tU] at h
  split at h
  .rename_i h1 h2
   simp at h;subst h
   cases args with
   |nil=>simp at hl
   |cons y args=>exact⟨Df hf h1 (hn y t (by simp)),Ij hf h2 (by simp_all) (λx t hm=>hn x t (by simp[hm]))⟩
  cases h
theorem OW{mi:Lac}{ob:Laa}:∀{m:Lac} {xs:Laa} {l:Nat} {x:Ob},Dq mi ob m=ς xs->go xs l=ς x->∃o x0,cf m l=ς o/\go ob o=ς x0/\ER (rlB ob mi) x0=ς x
 |[],xs,l,x,h,hg=>by simp[Dq] at h;subst h;cases hg
 |(k,o)::r,xs,l,x,h,hg=>by
  simp only[Dq] at h
  split at h
  .rename_i x0 h0
   split at h
   .rename_i y ys h1 h2
    simp at h;subst h
    by_cases e:k=l
    .subst e;rw[bX] at hg;cases hg;exact⟨o,x0,by simp[cf],h0,h1⟩
    rw[bg _ _ e] at hg
    obtain⟨o',x',a1,a2,a3⟩:=OW h2 hg
    exact⟨o',x',by simp only[cf,gQ e];exact a1,a2,a3⟩
   cases h
  cases h
theorem KU{mi:Lac}{ob:Laa}:∀{m:Lac} {xs:Laa} {k o:Nat},Dq mi ob m=ς xs->(k,o)∈m->∃x0 x,go ob o=ς x0/\ER (rlB ob mi) x0=ς x
 |(k',o')::r,xs,k,o,h,hm=>by
  simp only[Dq] at h
  split at h
  .rename_i x0 h0
   split at h
   .rename_i y ys h1 h2
    rcases aa2.1 hm with e|hm
    .simp_all
    exact KU h2 hm
   cases h
  cases h
theorem IJ{m:Lac}(hinj:∀a a' b,cf m a=ς b->cf m a'=ς b->a=a'):∀{ys ys':Laa} {o:Nat} {y':Ob},wz m ys=ς ys'->go ys' o=ς y'->∃k y,cf m k=ς o/\go ys k=ς y/\ER (rlC m) y=ς y'
 |[],ys',o,y',h,hg=>by simp[wz] at h;subst h;cases hg
 |(k,x)::r,ys',o,y',h,hg=>by
  simp only[wz] at h
  split at h
  .rename_i o1 y1 ys1 h1 h2 h3
   simp at h;subst h
   by_cases e:o1=o
   .subst e;rw[bX] at hg;cases hg;exact⟨k,x,h1,bX _ _ _,h2⟩
   rw[bg _ _ e] at hg
   obtain⟨k',y,a1,a2,a3⟩:=IJ hinj h3 hg
   have hne:k≠k':=λe'=>by simp_all
   exact⟨k',y,a1,by rw[bg _ _ hne];exact a2,a3⟩
  cases h
theorem LN{a b:Laa}{o:Nat}(h:go (a++b) o=ς x):go a o=ς x\/(go a o=ξ/\go b o=ς x):=by
 induction a with
 |nil=>exact .inr ⟨rfl,h⟩
 |cons p r ih=>
  obtain⟨k,v⟩:=p
  by_cases e:k=o
  .subst e;rw[ade,bX] at h;rw[bX];exact .inl h
  rw[ade,bg _ _ e] at h;rw[bg _ _ e];exact ih h
theorem IK{m:Lac}:∀{ys ys':Laa} {k:Nat} {y:Ob},wz m ys=ς ys'->go ys k=ς y->∃o,cf m k=ς o/\go ys' o≠ξ
 |(k',x)::r,ys',k,y,h,hg=>by
  simp only[wz] at h
  split at h
  .rename_i o1 y1 ys1 h1 h2 h3
   simp at h;subst h
   by_cases e:k'=k
   .subst e;exact⟨o1,h1,by rw[bX];simp⟩
   rw[bg _ _ e] at hg
   obtain⟨o,a1,a2⟩:=IK h3 hg
   refine⟨o,a1,?_⟩
   by_cases e2:o1=o
   .subst e2;rw[bX];simp
   rw[bg _ _ e2];exact a2
  cases h
theorem Pp{f:C->Option C}{t:Nat}{g:Gr}{mm:Bool}(h:ER f (.row t sz els g mm)=ς y):∃g':Bool,g= .b g'/\mm=ζ/\y= .row t sz els g' true:=by
 cases g<;>cases mm<;>simp[ER] at h
 exact⟨_,rfl,rfl,h.symm⟩
theorem VI{f:C->Option C}{t:Nat}{g:Gr}(h:ER f (.rown t sz els g)=ς y):∃g':Bool,g= .b g'/\y= .rown t sz els g':=by
 cases g<;>simp[ER] at h
 exact⟨_,rfl,h.symm⟩
theorem TG{f:C->Option C}{o:Nat}(h:ER f x=ς y)(hf:∀c c' u,f c=ς c'->cvC E w c u->cvC E' w c' u)(hr:∀b c,¬(E.n l/\∃t sz els g,x= .rown t sz els g)->E.r l=ς (b,c)->E'.r o=ς (b,c))(hn:E'.n o↔E.n l)(hH:∀(g:Bool) b,E.H g b->E'.H g b)(hF:∀b c,¬(E.n l/\∃t sz els g,x= .rown t sz els g)->E.r l=ς (b,c)->¬E.F b->¬E'.F b)(hx:cN E w l x):cN E' w o y:=by
 cases x with
 |var t cs=>
  simp only[ER] at h
  split at h
  .rename_i h1;cases h
   obtain⟨b,c,arr,k1,k2,k3,k4⟩:=hx
   have hno:¬(E.n l/\∃t' sz els g,Ob.var t cs= .rown t' sz els g):=λ⟨_,_,_,_,_,h⟩=>by cases h
   exact⟨b,c,arr,hr b c hno k1,k2,tT hf h1 k3,hF b c hno k1 k4⟩
  cases h
 |row t sz els g mm=>
  obtain⟨g,rfl,rfl,rfl⟩:=Pp h
  obtain⟨b,c,arr,k1,k2,k3,k4,k5,k6,k7,k8,_⟩:=hx
  have hno:¬(E.n l/\∃t' sz' els' g',Ob.row t sz els g ζ= .rown t' sz' els' g'):=λ⟨_,_,_,_,_,h⟩=>by cases h
  exact⟨b,c,arr,hr b c hno k1,k2,k3,k4,k5,k6,bP (λ_ _=>rfl) (hH g) rfl _ _ k7,λ_=>hF b c hno k1 (k8 rfl),(λh=>by cases h),θ⟩
 |rown t sz els g=>
  obtain⟨g,rfl,rfl⟩:=VI h
  rcases hx with⟨h1,h2⟩|⟨h1,b,c,arr,k1,k2,k3,k4,k5,k6,k7,k8⟩
  .exact .inl ⟨hn.2 h1,h2⟩
  exact .inr ⟨λk=>h1 (hn.1 k),b,c,arr,hr b c (λk=>h1 k.1) k1,k2,k3,k4,k5,k6,bP (λ_ _=>rfl) (hH g) rfl _ _ k7,hF b c (λk=>h1 k.1) k1 k8.1,θ⟩
 |abs j z=>cases h
def ltF(n:Nat)(f:C->Option C)(c:C):Option C:=bif c.lt n then f c else ς .any
theorem OC{n:Nat}{f:C->Option C}:∀{cs:List C},cs.all (C.lt n)=ζ->lp (ltF n f) cs=lp f cs
 |[],_=>rfl
 |c::cs,h=>by
  simp only[adm,f4] at h
  simp only[lp,OC h.2,ltF,h.1,cond_true]
theorem Tg{f:C->Option C}(h:v.lt n=ζ):F1 (ltF n f) v=F1 f v:=by
 cases v with
 |c c=>have h:c.lt n=true:=h;simp only[F1,ltF,h,cond_true]
 |agg cs=>simp only[F1,OC (n:=n) (cs:=cs) h]
theorem OD{n:Nat}{f:C->Option C}:∀{cs:List V},cs.all (V.lt n)=ζ->zD (ltF n f) cs=zD f cs
 |[],_=>rfl
 |c::cs,h=>by
  simp only[adm,f4] at h
  simp only[zD,OD h.2,Tg h.1]
theorem ab3{f:C->Option C}{t:T}(h:t.lt n=ζ):xP (ltF n f) t=xP f t:=by
 cases t with
 |v v=>simp only[xP,Tg (n:=n) (v:=v) h]
 |tup vs=>simp only[xP,OD (n:=n) (cs:=vs) h]
 |any=>rfl
theorem L6{n:Nat}{f:C->Option C}:∀{sl:Lab},Al n sl=ζ->pZ (ltF n f) sl=pZ f sl
 |[],_=>rfl
 |(k,t)::r,h=>by
  simp only[Al,f4] at h
  simp only[pZ,ab3 h.1,L6 h.2]
open Classical in
theorem Tr{up:Bool}{d:Tmp}{gd:Option (Nat×Bool)}{ob:Laa}{xs ys' nw nw':Laa}{out':T}{m nl:Lac}(hF:FnV P f xs ts' ys out nw)(ht:pH sl args=ς ts)(ha:tU (agC up ob (inv m)) ts=ς ts')(hx:Dq (inv m) ob m=ς xs)(hm:mOK m nl nx n ys=ζ)(hs:pZ (kvC (inv m)) sl=ς sl')(hb:nL (kvC (inv m)) (λ_ x=>ς x) ob=ς ob')(hy:wz (m++nl) ys=ς ys')(hw:wz (m++nl) nw=ς nw')(ho:xP (rlC (m++nl)) out=ς out')(hsl:Al nx sl=ζ)(hol:tZ nx ob=ζ)(hN:nlt d N=ζ):
 AWO P N ⟨ς d,.call ⟨.value (.func f),args.toArray,tys⟩,ty,ps,af,gd⟩ ⟨sl,ob,nx⟩ ⟨(d,out')::sl',nw'++(ys'++ob'),n⟩:=by
 intro cx E a w hR
 have ok:=hR.ok
 obtain⟨t1,t2⟩:=nC ht
 simp only[mOK,f4,aa4,adf,ac8] at hm
 obtain⟨⟨⟨hk1,hk2⟩,hm1,hc⟩,hu,hm2⟩:=hm
 have nd1:=jH hk1
 have nd2:=jH hk2
 obtain⟨hnn,hcu⟩:=CC hc
 have ndm1:(m.map (·.1)).Nodup:=by rw[adZ] at nd1;exact(ad6.1 nd1).1
 have ndm2:(m.map (·.2)).Nodup:=by rw[adZ] at nd2;exact(ad6.1 nd2).1
 have inv_of:∀{k o},cf m k=ς o->cf (inv m) o=ς k:=λh=>fD (by rw[tE];exact ndm2) (mn.2 (c9 h))
 have of_inv:∀{k o},cf (inv m) o=ς k->cf m k=ς o:=λh=>fD ndm1 (mn.1 (c9 h))
 have inv_of':∀{k o},cf (m++nl) k=ς o->cf (inv (m++nl)) o=ς k:=λh=>fD (by rw[tE];exact nd2) (mn.2 (c9 h))
 have of_inv':∀{k o},cf (inv (m++nl)) o=ς k->cf (m++nl) k=ς o:=λh=>fD nd1 (mn.1 (c9 h))
 have look_m:∀{k o},cf m k=ς o->cf (m++nl) k=ς o:=λh=>fD nd1 (aau.2 (.inl (c9 h)))
 have split:∀{k o},cf (m++nl) k=ς o->cf m k=ς o\/(k,o)∈nl:=λh=>(aau.1 (c9 h)).imp (fD ndm1) id
 have linj:∀a a' b,cf m a=ς b->cf m a'=ς b->a=a':=λa a' b h h'=>by grind
 have linj':∀a a' b,cf (m++nl) a=ς b->cf (m++nl) a'=ς b->a=a':=λa a' b h h'=>by grind
 have mrs:∀{k o},cf m k=ς o->rsv k=ζ/\o<nx:=λh=>⟨(hm1 _ (c9 h)).1,bV (hm1 _ (c9 h)).2⟩
 have pick:∀{k o},cf m k=ς o->∃x0 x,go ob o=ς x0/\ER (rlB ob (inv m)) x0=ς x:=λh=>KU hx (c9 h)
 let nilL:Nat->Prop:=λo=>E.n o/\∃t sz els g,go ob o=ς (.rown t sz els g)
 let Ec:Env:={r:=λl=>match cf m l with|some o=>if nilL o then ξ else E.r o|none=>ξ,F:=E.F,G:=E.G,n:=λl=>∃o,cf m l=ς o/\E.n o}
 have hEc:∀l p,Ec.r l=ς p->∃o,cf m l=ς o/\¬nilL o/\E.r o=ς p:=by
  intro l p h
  have h:(match cf m l with|some o=>if nilL o then ξ else E.r o|none=>ξ)=ς p:=h
  split at h
  .rename_i o h1
   split at h
   .cases h
   grind
  cases h
 have hEc2:∀{l o p},cf m l=ς o->¬nilL o->E.r o=ς p->Ec.r l=ς p:=by
  intro l o p h1 h2 h3
  show(match cf m l with|some o=>if nilL o then ξ else E.r o|none=>ξ)=ς p
  rw[h1];simp only[h2,if_false];exact h3
 have hEn:∀{l o},cf m l=ς o->(Ec.n l↔E.n o):=λh=>⟨λ⟨o',h1,h2⟩=>by grind,λh2=>⟨_,h,h2⟩⟩
 have nF:∀{l o b c},cf m l=ς o->¬nilL o->E.r o=ς (b,c)->¬E.F b:=by
  intro l o b c h1 h2 h3
  obtain⟨x0,x,a1,a2⟩:=pick h1
  have hx0:=hR.obs o x0 a1
  cases x0 with
  |var t cs=>obtain⟨b',c',arr,k1,k2,k3,k4⟩:=hx0;grind
  |row t sz els g mm=>
   obtain⟨g,rfl,rfl,_⟩:=Pp a2
   obtain⟨b',c',arr,k1,k2,k3,k4,k5,k6,k7,k8,_⟩:=hx0;grind
  |rown t sz els g=>
   rcases hx0 with⟨k0,_⟩|⟨_,b',c',arr,k1,k2,k3,k4,k5,k6,k7,k8⟩
   .grind
   grind
  |abs j z=>cases a2
 have hVI:VIn Ec w:=⟨ok.fb,ok.gf,λl b c h=>by
  obtain⟨o,h1,h2,h3⟩:=hEc l _ h
  exact⟨(ok.rb o b c h3).1,(mrs h1).1,nF h1 h2 h3⟩,λl l' b c c' h h'=>by
  obtain⟨o,h1,h2,h3⟩:=hEc l _ h
  obtain⟨o',h1',h2',h3'⟩:=hEc l' _ h'
  have:=ok.inj _ _ _ _ _ h3 h3'
  grind,λ_ _ h=>h.elim,λ_ _ _ h=>h.elim,λ_ _ _ h=>h,λ_ h=>h⟩
 have hcB:∀c c' u,rlB ob (inv m) c=ς c'->cvC E w c u->cvC Ec w c' u:=by
  intro c c' u h hc
  cases c with
  |w l n=>
   simp only[rlB] at h
   split at h
   .rename_i k _ _ _ _ _ h1 h2;cases h
    obtain⟨b,c,h3,h4⟩:=hc
    exact⟨b,c,hEc2 (of_inv h1) (λ⟨_,_,_,_,_,h⟩=>by grind) h3,h4⟩
   cases h
  |wn l n=>
   simp only[rlB] at h
   split at h
   .rename_i k _ _ _ _ h1 h2;cases h
    rcases hc with⟨h3,h4⟩|⟨h3,b,c,h4,h5⟩
    .exact .inl ⟨(hEn (of_inv h1)).2 h3,h4⟩
    exact .inr ⟨λh=>h3 ((hEn (of_inv h1)).1 h),b,c,hEc2 (of_inv h1) (λh=>h3 h.1) h4,h5⟩
   cases h
  |p l n=>
   simp only[rlB] at h
   split at h
   .rename_i k _ _ h1 h2;cases h
    obtain⟨b,c,h3,h4⟩:=hc
    exact⟨b,c,hEc2 (of_inv h1) (λ⟨_,_,_,_,_,h⟩=>by grind) h3,h4⟩
   cases h
  |d g x=>cases g<;>simp only[rlB] at h<;>cases h;rename_i g;cases g<;>exact hc
  |nil=>simp only[rlB] at h;cases h;exact hc
  |any=>simp only[rlB] at h;cases h;trivial
  |fn f=>simp only[rlB] at h;cases h;exact hc
  |_=>simp only[rlB] at h;cases h
 have hcA:∀c c' u,agC up ob (inv m) c=ς c'->cvC E w c u->cvC Ec w c' u:=by
  intro c c' u h hc
  cases c with
  |d g x=>cases g<;>simp only[agC,rlB] at h<;>cases h;rename_i g;exact bQ (F:=E.H g) (λ_ _=>rfl) (λb hb=>by cases g<;>cases up<;>first|exact hb|exact ok.gf b hb) x u hc
  |nil=>simp only[agC] at h;cases h;exact⟨ξ,0,hc,abk _,.inl rfl⟩
  |_=>simp only[agC] at h;grind
 have hX:∀l x,go xs l=ς x->cN Ec w l x:=by
  intro l x h
  obtain⟨o,x0,a1,a2,a3⟩:=OW hx h
  exact TG a3 hcB (λb c h1 h2=>hEc2 a1 (λ⟨k1,t,sz,els,g,k2⟩=>h1 ⟨k1,t,sz,els,g,by grind⟩) h2) (hEn a1) (λg b h=>by cases g<;>exact h) (λb c h1 h2 h3=>h3) (hR.obs o x0 a2)
 have hA:=Ij (a:=a) hcA ha t1 (λx t hm=>by have:=hR.op x;rwa [Lk.mem t2 x t hm] at this)
 have hc:=hF.calls Ec w (args.map a.eval).toArray hVI ok.tabs (λk hk l c h=>by
  obtain⟨o,_,_,h3⟩:=hEc l _ h;exact ok.ntab h3 k hk rfl) hX oaa
 have hent:=hF.enters (args.map a.eval).toArray w
 unfold Oper.wp
 have hrun:(execOp a.eval ⟨ς d,.call ⟨.value (.func f),args.toArray,tys⟩,ty,ps,af,gd⟩).run P w= .ok (.enter f (args.map a.eval).toArray) w:=by
  simp only[execOp,resolve,Act.eval,Deferred.ofValue,Sem.run_bind,Sem.run_pure,Result.andThen_ok,invoke]
  simpa using hent
 rw[hrun,Oper.upon_enter]
 refine hc.mono ?_
 rintro e w' ⟨v,E',rfl,vo,hv,hY,hNW⟩
 have hsz:=vo.past.size
 have f0':∀b,E'.F b->E.F b\/(w.heap.size<=b/\fR w' b):=λb h=>(vo.f0 b h).imp id λh=>⟨h.1.resolve_right (λ⟨_,h⟩=>h),h.2⟩
 have g0':∀b,E'.G b->w.heap.size<=b\/E.G b:=λb h=>(vo.g0 b h).imp id λh=>h.resolve_right (λ⟨_,h⟩=>h)
 let E2:Env:={r:=λl=>match cf (inv (m++nl)) l with|some k=>E'.r k|none=>E.r l,F:=E'.F,G:=E'.G,T:=E.T,Z:=E.Z,n:=λl=>match cf (inv (m++nl)) l with|some k=>E'.n k|none=>E.n l}
 have e2r:∀{k o},cf (m++nl) k=ς o->E2.r o=E'.r k:=λh=>by grind
 have e2n:∀{k o},cf (m++nl) k=ς o->(E2.n o↔E'.n k):=λh=>by grind
 have e2r0:∀{o},cf (inv (m++nl)) o=ξ->E2.r o=E.r o:=λh=>by grind
 have e2n0:∀{o},cf (inv (m++nl)) o=ξ->(E2.n o↔E.n o):=λh=>by grind
 have e2c:∀l b c,E2.r l=ς (b,c)->(∃k,cf (m++nl) k=ς l/\E'.r k=ς (b,c))\/(cf (inv (m++nl)) l=ξ/\E.r l=ς (b,c)):=by
  intro l b c h
  cases h1:cf (inv (m++nl)) l with
  |some k=>exact .inl ⟨k,of_inv' h1,by grind⟩
  |none=>grind
 have oldB:∀{k b c},E'.r k=ς (b,c)->w.heap.size<=b\/∃l o c',cf m l=ς o/\¬nilL o/\E.r o=ς (b,c')/\rsv k=true:=by
  intro k b c h
  rcases(vo.rb k b c h).2 with(h|⟨_,h⟩)|⟨⟨l,c',h⟩,h2⟩
  .exact .inl h
  .exact h.elim
  obtain⟨o,h3,h4,h5⟩:=hEc l _ h;grind
 have none_of:∀{o},(∀k,cf m k≠ς o)->o<nx->cf (inv (m++nl)) o=none:=by
  intro o h1 h2
  cases h:cf (inv (m++nl)) o with
  |none=>rfl
  |some k=>
   rcases split (of_inv' h) with h3|h3
   .grind
   grind
 have hnot:∀{o},cf (inv (m++nl)) o=ξ->∀k,cf m k≠ς o:=λh k h1=>by grind
 have hheap:∀k,k<w.heap.size->(∀l o c,cf m l=ς o->¬nilL o->E.r o≠ς (k,c))->w'.heap[k]?=w.heap[k]?:=λk hk h=>vo.past.block k hk (λh1=>by
  obtain⟨l,c,h1⟩:=h1.resolve_right (λ⟨_,h⟩=>h)
  obtain⟨o,h2,h3,h4⟩:=hEc l _ h1;grind)
 have hFh:∀b,E.F b->w'.heap[b]?=w.heap[b]?:=λb hb=>hheap b (ok.fb b hb) (λl o c h1 h2 h3=>nF h1 h2 h3 hb)
 have hHh:∀(g:Bool) b,E.H g b->w'.heap[b]?=w.heap[b]?:=λg b hb=>hFh b (by cases g;exact hb;exact ok.gf b hb)
 have hTh:∀l b,E.T l b->w'.heap[b]?=w.heap[b]?:=λl b hb=>hheap b (ok.sf.tb l b hb).1.1 (λ_ o c _ _ h=>(ok.sf.tb l b hb).2.2.1 o c h)
 have hZh:∀b,cx.Z b->w'.heap[b]?=w.heap[b]?:=λb hb=>hheap b (ok.sf.zc b hb).1.2.1 (λ_ o c _ _ h=>(ok.sf.zc b hb).2.2.1 o c h)
 have okE:dr cx E2 w':=by
  refine⟨vo.fb,vo.gf,λb h=>?_,λl b c h=>?_,λl l' b c c' h h'=>?_,by rw[vo.past.os];exact ok.os,by rw[vo.past.tape];exact ok.tape,by rw[vo.past.output];exact ok.output,acR ok.size hsz,λb h hW=>?_,λl x hv h=>?_,λb h=>?_,λb h h'=>?_,⟨λl b h=>?_,ok.sf.tt,λb h=>?_,λb h=>?_,ok.sf.ze⟩⟩
  .rcases g0' b h with h|h
   .exact .inl (acR ok.size h)
   exact ok.gn b h
  .rcases e2c l b c h with⟨k,h1,h2⟩|⟨h1,h2⟩
   .refine⟨(vo.rb k b c h2).1,?_⟩
    rcases oldB h2 with h3|⟨l',o',c',h3,h4,h5,h6⟩
    .exact .inl (.inl (acR ok.size h3))
    rcases split h1 with h7|h7
    .rcases(ok.rb o' b c' h5).2 with h8|⟨h8,h9⟩
     .exact .inl h8
     refine .inr ⟨h8,?_⟩
     cases hp:rsp k with
     |true=>
      have h10:=vo.pin k _ hp h2
      obtain⟨o2,h11,_,h13⟩:=hEc k _ h10
      rw[h7] at h11;cases h11
      have:=ok.inj _ _ _ _ _ h13 h5
      grind
     |false=>
      rcases hu with hu|hu
      .rcases hu _ (c9 h7) with h10|h10
       .grind
       exact h10
      rcases hu _ (c9 h3) with h10|h10
      .have h11:rsp l'=true:=h10
       have h12:=inv_of h3
       exfalso
       have hy2:(go ys l').isSome=true:=(hm2 _ (c9 h3)).2.2
       have hv2:XR ys l'=true:=((hm2 _ (c9 h3)).2.1).resolve_left (by simp[h11])
       unfold XR at hv2
       split at hv2
       .rename_i t cs hg
        obtain⟨b1,c1,arr,q1,_⟩:=hY _ _ hg
        have q2:=vo.pin l' _ h11 q1
        obtain⟨o2,q3,_,q4⟩:=hEc l' _ q2
        rw[h3] at q3;cases q3
        rw[h5] at q4;cases q4
        have:=vo.inj _ _ _ _ _ q1 h2
        grind
       cases hv2
      grind
    grind
   have:=ok.rb l b c h2;grind
  .rcases e2c l b c h with⟨k,h1,h2⟩|⟨h1,h2⟩<;>rcases e2c l' b c' h' with⟨k',h1',h2'⟩|⟨h1',h2'⟩
   .have:=vo.inj _ _ _ _ _ h2 h2'
    grind
   .exfalso
    rcases oldB h2 with h3|⟨l2,o2,c2,h3,h4,h5,_⟩
    .have:=(ok.rb _ _ _ h2').1;omega
    have:=ok.inj _ _ _ _ _ h5 h2'
    subst this
    exact hnot h1' _ h3
   .exfalso
    rcases oldB h2' with h3|⟨l2,o2,c2,h3,h4,h5,_⟩
    .have:=(ok.rb _ _ _ h2).1;omega
    have:=ok.inj _ _ _ _ _ h5 h2
    subst this
    exact hnot h1 _ h3
   exact ok.inj _ _ _ _ _ h2 h2'
  .rw[hheap b (aci h ok.size) (λl o c h1 h2 h3=>by
    exact(ok.rw h3).elim (λ_=>by omega) hW)]
   exact ok.block b h hW
  .obtain⟨b,c⟩:=x
   rcases e2c l b c h with⟨k,h1,h2⟩|⟨_,h2⟩
   .rcases split h1 with h7|h7
    .have hk:rsp k=true:=((hm2 _ (c9 h7)).1).resolve_left (by simp[hv])
     obtain⟨o2,q3,_,q4⟩:=hEc k _ (vo.pin k _ hk h2)
     rw[h7] at q3;cases q3
     exact ok.pin l _ hv q4
    have:=(hcu _ _ h7).2.2.1
    have h9:=GF hv
    grind
   exact ok.pin l _ hv h2
  .rcases f0' b h with h|h
   .exact ok.ff b h
   exact .inr (acR ok.size h.1)
  .rcases f0' b h with h|h
   .exact(ok.gc b h h').of_eq (hFh b h)
   exact h.2
  .obtain⟨k1,k2,k3,k4⟩:=ok.sf.tb l b h
   refine⟨⟨by omega,k1.2⟩,λhf=>?_,λo c ho=>?_,k4.of_eq (hTh l b h)⟩
   .rcases f0' b hf with hf|hf
    .exact k2 hf
    omega
   rcases e2c o b c ho with⟨k,_,h2⟩|⟨_,h2⟩
   .rcases oldB h2 with h3|⟨l2,o2,c2,h3,h4,h5,_⟩
    .omega
    exact k3 _ _ h5
   grind
  .obtain⟨k1,k2,k3,k4⟩:=ok.sf.zc b h
   refine⟨⟨k1.1,by omega,k1.2.2⟩,λhf=>?_,λo c ho=>?_,k4.of_eq (hZh b h)⟩
   .rcases f0' b hf with hf|hf
    .exact k2 hf
    omega
   rcases e2c o b c ho with⟨k,_,h2⟩|⟨_,h2⟩
   .rcases oldB h2 with h3|⟨l2,o2,c2,h3,h4,h5,_⟩
    .omega
    exact k3 _ _ h5
   grind
  exact(ok.sf.zs b h).trans (.of_eq (hZh b h))
 have hHm:∀(g:Bool) b,E.H g b->E2.H g b:=λg b h=>by cases g;exact vo.F b h;exact vo.G b h
 have hHh':∀(g:Gr) b,E.H g b->w'.heap[b]?=w.heap[b]?:=λg b h=>by
  cases g with
  |b g=>exact hHh g b h
  |s n=>exact hTh n b h
  |t n=>exact hTh n b h
 have hHm':∀(g:Gr) b,E.H g b->E2.H g b:=λg b h=>by
  cases g with
  |b g=>exact hHm g b h
  |s n=>exact h
  |t n=>exact h
 have hgk:∀{g:Gr} {x:D} {u:Value},gD E w g x u->gD E2 w' g x u:=λ{g x u} h=>by
  cases g with
  |b g=>exact bQ (hHh' (.b g)) (hHm' (.b g)) x u h
  |s n=>exact bQ (hHh' (.s n)) (hHm' (.s n)) x u h
  |t n=>
   exact h.keep (λb hb=>hTh n b hb) (λ_ hb=>hb)
 have hrg:∀{g:Gr} {els:Lad} {b:Nat},w'.heap[b]?=w.heap[b]?->uf E w els b g->uf E2 w' els b g:=λ{g els b} hb h=>by
  cases g with
  |b g=>trivial
  |s n=>
   exact dJ.keep h hb (λb hb=>hTh n b hb) (λ_ hb=>hb)
  |t n=>
   exact dJ.keep h hb (λb hb=>hTh n b hb) (λ_ hb=>hb)
 have hkv:∀c c' u,c.lt nx=ζ->kvC (inv m) c=ς c'->cvC E w c u->cvC E2 w' c' u:=by
  intro c c' u hl h hc
  have hnone:∀{l},cf (inv m) l=ξ->l<nx->cf (inv (m++nl)) l=none:=λh1 h2=>none_of (λk h3=>by grind) h2
  cases c with
  |d g x=>simp only[kvC] at h;cases h;exact hgk hc
  |w l n=>
   simp only[kvC] at h
   split at h
   .cases h;trivial
   rename_i h1;cases h
   obtain⟨b,c,h3,h4⟩:=hc
   exact⟨b,c,by rw[e2r0 (hnone h1 (bV hl))];exact h3,h4⟩
  |wn l n=>
   simp only[kvC] at h
   split at h
   .cases h;trivial
   rename_i h1;cases h
   have h2:=hnone h1 (bV hl)
   rcases hc with⟨h3,h4⟩|⟨h3,b,c,h4,h5⟩
   .exact .inl ⟨(e2n0 h2).2 h3,h4⟩
   exact .inr ⟨λh=>h3 ((e2n0 h2).1 h),b,c,by grind,h5⟩
  |s l a1 a2 a3=>
   simp only[kvC] at h
   split at h
   .cases h;trivial
   rename_i h1;cases h
   obtain⟨A,c,b,k,h3,h4⟩:=hc
   exact⟨A,c,b,k,by rw[e2r0 (hnone h1 (bV hl))];exact h3,h4⟩
  |e l a1 a2 a3=>
   simp only[kvC] at h
   split at h
   .cases h;trivial
   rename_i h1;cases h
   obtain⟨b,c,h3,h4⟩:=hc
   exact⟨b,c,by rw[e2r0 (hnone h1 (bV hl))];exact h3,h4⟩
  |p l j=>
   simp only[kvC] at h
   split at h
   .rename_i k h1
    split at h
    .rename_i hp
     cases h
     obtain⟨b,c,h3,h4⟩:=hc
     have h5:=of_inv h1
     have hv2:XR ys k=true:=((hm2 _ (c9 h5)).2.1).resolve_left (by simp[hp])
     unfold XR at hv2
     split at hv2
     .rename_i t cs hg
      obtain⟨b1,c1,arr,q1,_⟩:=hY _ _ hg
      obtain⟨o2,q3,_,q4⟩:=hEc k _ (vo.pin k _ hp q1)
      rw[h5] at q3;cases q3
      rw[h3] at q4;cases q4
      exact⟨b,c,by rw[e2r (look_m h5)];exact q1,h4⟩
     cases hv2
    cases h;trivial
   rename_i h1;cases h
   obtain⟨b,c,h3,h4⟩:=hc
   exact⟨b,c,by rw[e2r0 (hnone h1 (bV hl))];exact h3,h4⟩
  |q g y j=>
   simp only[kvC] at h;cases h
   obtain⟨b,k,h1,h2,h3⟩:=hc
   exact⟨b,k,h1,hHm' g b h2,rdL_mono (hHh' g) (hHm' g) y b k h2 h3⟩
  |fn f=>simp only[kvC] at h;cases h;exact hc
  |nil=>simp only[kvC] at h;cases h;exact hc
  |any=>simp only[kvC] at h;cases h;trivial
  |r l x=>simp only[kvC] at h;cases h;exact bQ (λb hb=>hTh l b hb) (λb hb=>hb) x u hc
  |z x=>simp only[kvC] at h;cases h;exact ug (λb hb=>.of_eq (hZh b (ok.sf.ze b hb))) (λb hb=>hb) x u hc
  |zq x j=>
   simp only[kvC] at h;cases h
   obtain⟨b,k,h1,h2,h3⟩:=hc
   exact⟨b,k,h1,h2,rsL_mono (λb hb=>.of_eq (hZh b (ok.sf.ze b hb))) (λb hb=>hb) x b k h2 h3⟩
 have hrl:∀c c' u,rlC (m++nl) c=ς c'->cvC E' w' c u->cvC E2 w' c' u:=by
  intro c c' u h hc
  cases c with
  |w l n=>
   simp only[rlC] at h
   split at h
   .rename_i k h1;cases h
    obtain⟨b,c,h3,h4⟩:=hc
    exact⟨b,c,by grind,h4⟩
   cases h
  |wn l n=>
   simp only[rlC] at h
   split at h
   .rename_i k h1;cases h
    rcases hc with⟨h3,h4⟩|⟨h3,b,c,h4,h5⟩
    .exact .inl ⟨(e2n h1).2 h3,h4⟩
    exact .inr ⟨λh=>h3 ((e2n h1).1 h),b,c,by grind,h5⟩
   cases h
  |p l n=>
   simp only[rlC] at h
   split at h
   .rename_i k h1;cases h
    obtain⟨b,c,h3,h4⟩:=hc
    exact⟨b,c,by grind,h4⟩
   cases h
  |s l x y z=>
   simp only[rlC] at h
   split at h
   .rename_i k h1;cases h
    obtain⟨A,q,b,c,h3,h4⟩:=hc
    exact⟨A,q,b,c,by grind,h4⟩
   cases h
  |d g x=>cases g<;>simp only[rlC] at h<;>cases h;rename_i g;cases g<;>exact hc
  |nil=>simp only[rlC] at h;cases h;exact hc
  |any=>simp only[rlC] at h;cases h;trivial
  |fn f=>simp only[rlC] at h;cases h;exact hc
  |_=>simp only[rlC] at h;cases h
 have hrel:∀{k o:Nat} {y y':Ob},cf (m++nl) k=ς o->ER (rlC (m++nl)) y=ς y'->cN E' w' k y->cN E2 w' o y':=λh1 h2 h3=>
  TG h2 hrl (λb c _ h=>by grind) (e2n h1) (λg b h=>by cases g<;>exact h) (λb c _ _ h=>h) h3
 refine⟨E2,okE,λl x h=>?_,λl y hl=>?_,λk=>?_,hR.dfr,by simpa [Act.put] using hR.size,λl b h=>aci (hR.td l b h) hnn⟩
 .obtain⟨b,c⟩:=x
  rcases e2c l b c h with⟨k,h1,_⟩|⟨_,h2⟩
  .rcases split h1 with h3|h3
   .exact aci (mrs h3).2 hnn
   grind
  exact aci (hR.dom l _ h2) hnn
 .rcases LN hl with h|⟨_,h⟩
  .obtain⟨k,y0,h1,h2,h3⟩:=IJ linj' hw h
   exact hrel h1 h3 (hNW _ _ h2)
  rcases LN h with h|⟨h0,h⟩
  .obtain⟨k,y0,h1,h2,h3⟩:=IJ linj' hy h
   exact hrel h1 h3 (hY _ _ h2)
  .
    have hnm:∀k,cf m k≠ς l:=λk h1=>by
     have h2:=(hm2 _ (c9 h1)).2.2
     cases h3:go ys k with
     |none=>grind
     |some y0=>
      obtain⟨o,h4,h5⟩:=IK hy h3
      grind
    have hno:∀b c,E.r l=ς (b,c)->w'.heap[b]?=w.heap[b]?:=λb c hr=>hheap b (ok.rb l b c hr).1 (λl' o' c' h1 _ h3=>by
     have:=ok.inj _ _ _ _ _ hr h3
     subst this
     exact hnm _ h1)
    have hFn:∀b c,E.r l=ς (b,c)->¬E.F b->¬E2.F b:=λb c hr hn hf=>(f0' b hf).elim hn (λh=>by have:=(ok.rb l b c hr).1;omega)
    rcases u9 hb h with⟨t,cs,cs',g1,g2,rfl⟩|⟨x0,g1,g2,g3⟩
    .obtain⟨hln,hxl⟩:=t0 hol g1
     have e1:=e2r0 (none_of hnm hln)
     obtain⟨b,c,arr,k1,k2,k3,k4⟩:=hR.obs l _ g1
     refine⟨b,c,arr,by grind,(hno b c k1).trans k2,?_,hFn b c k1 k4⟩
     have key:∀(cs cs':List C) (us:Lae),cs.all (C.lt nx)=ζ->lp (kvC (inv m)) cs=ς cs'->CV E w cs us->CV E2 w' cs' us:=by
      intro cs
      induction cs with
      |nil=>intro cs' us _ h hc;simp[lp] at h;subst h;cases us with
       |nil=>trivial
       |cons _ _=>exact hc.elim
      |cons c cs ih=>
       intro cs' us hl h hc
       simp only[adm,f4] at hl
       cases us with
       |nil=>exact hc.elim
       |cons u us=>
        simp only[lp] at h
        split at h
        .rename_i h1 h2;simp at h;subst h;exact⟨hkv _ _ _ hl.1 h1 hc.1,ih _ _ hl.2 h2 hc.2⟩
        cases h
     exact key _ _ _ hxl g2 k3
    cases g3
    obtain⟨hln,hxl⟩:=t0 hol g1
    have e1:=e2r0 (none_of hnm hln)
    have e3:=e2n0 (none_of hnm hln)
    have hx0:=hR.obs l _ g1
    cases y with
    |var t cs=>grind
    |row t sz els g mm=>
     obtain⟨b,c,arr,k1,k2,k3,k4,k5,k6,k7,k8,k9⟩:=hx0
     exact⟨b,c,arr,by grind,(hno b c k1).trans k2,k3,k4,k5,k6,bP (hHh' g) (hHm' g) (hno b c k1) _ _ k7,λhm=>hFn b c k1 (k8 hm),λhm=>⟨hHm η b (k9.1 hm).1,λhg=>hHm ζ b ((k9.1 hm).2 hg)⟩,hrg (hno b c k1) k9.2⟩
    |rown t sz els g=>
     rcases hx0 with⟨k1,k2⟩|⟨k0,b,c,arr,k1,k2,k3,k4,k5,k6,k7,k8⟩
     .exact .inl ⟨e3.2 k1,k2⟩
     exact .inr ⟨λh=>k0 (e3.1 h),b,c,arr,by grind,(hno b c k1).trans k2,k3,k4,k5,k6,bP (hHh' g) (hHm' g) (hno b c k1) _ _ k7,hFn b c k1 k8.1,hrg (hno b c k1) k8.2⟩
    |abs j z=>
     rcases hx0 with⟨k1,k2⟩|⟨k0,b,c,k1,k2,k3⟩
     .exact .inl ⟨e3.2 k1,k2⟩
     exact .inr ⟨λh=>k0 (e3.1 h),b,c,by grind,z.st _ _ _ _ _ _ k2 (λk hk=>hk) (hno b c k1) (λk hk=>hTh j k hk),hFn b c k1 k3⟩
 rw[ef (by rw[hR.size];exact bV hN)]
 by_cases hdk:d=k
 .subst hdk;rw[da,if_pos rfl];exact Df hrl ho hv
 rw[ck _ _ hdk,if_neg hdk]
 rw[<-L6 hsl] at hs
 refine AT (λc c' u h hc=>?_) hs (hR.sl k)
 unfold ltF at h
 cases hl:c.lt nx with
 |true=>grind
 |false=>rw[hl] at h;cases h;trivial
theorem cwu{d:Tmp}{gd:Option (Nat×Bool)}{ob ob1 ob2:Laa}{xs ys' nw nw':Laa}{out':T}(m nl:Lac)(n:Nat)(hF:FnV P f xs ts' ys out nw)(ht:pH sl args=ς ts:=by exact rfl)(ha:tU (agC ζ ob (inv m)) ts=ς ts':=by exact rfl)(hx:Dq (inv m) ob m=ς xs:=by exact rfl)(hm:mOK m nl nx n ys=true:=by exact rfl)(hs:pZ (kvC (inv m)) sl=ς sl':=by exact rfl)(hb:nL (kvC (inv m)) (λ_ x=>ς x) ob=ς ob':=by exact rfl)(hy:wz (m++nl) ys=ς ys':=by exact rfl)(hw:wz (m++nl) nw=ς nw':=by exact rfl)(ho:xP (rlC (m++nl)) out=ς out':=by exact rfl)(hsl:Al nx sl=true:=by exact rfl)(hol:tZ nx ob=true:=by exact rfl)(hN:nlt d N=true:=by exact rfl)(h1:apO ys' ob'=ς ob1:=by exact rfl)(h2:apO nw' ob1=ς ob2:=by exact rfl):
 AWO P N ⟨ς d,.call ⟨.value (.func f),args.toArray,tys⟩,ty,ps,af,gd⟩ ⟨sl,ob,nx⟩ ⟨(d,out')::sl',ob2,n⟩:=by
 rw[ti h2,ti h1]
 exact Tr hF ht ha hx hm hs hb hy hw ho hsl hol hN
end Go.AM
