/- A part. -/
import Derived.Test.YtcnfbcpgepbnkaaGreatE2
import Derived.Laws.IdiomStrings
set_option linter.unusedVariables false
set_option linter.unusedSimpArgs false
set_option maxHeartbeats 4000000
open Option renaming some->ς,none->ξ
open Bool renaming true->ζ,false->η
open True renaming intro->θ
open List renaming getElem?_append_right->aa3,getElem?_append_left->aa8,getElem?_eq_some_iff->f5,mem_append->aau,getElem?_eq_getElem->hV,mem_of_getElem?->v0,all_eq_true->aa4,getElem?_map->ada,flatten_append->ad2,flatten_cons->adr,mem_of_mem_take->adk,length_take->ad0,getElem?_take->adj,eq_nil_iff_forall_not_mem->aet,eq_nil_of_length_eq_zero->adn,getElem?_toArray->aes,map_append->adZ,mem_or_eq_of_mem_set->aeA,length_eq_zero_iff->aea,nodup_append->ad6,any_eq_true->adi,take_append_drop->aex,length_append->ads,map_cons->adU,mem_cons->aa2,getElem?_inj->aeC,map_toArray->ad8,mem_map->adP,getElem?_cons_succ->aeG,getElem?_set_self->aeI,mem_iff_getElem?->aeJ,getElem?_of_mem->ac7,filter_eq_self->aev,map_nil->ad3,length_map->adb,append_nil->aeE,length_set->aez,replicate->aal,map_drop->aeg,map_take->aeb,map_set->aeL,range->f6
open Nat renaming beq->fW,eq_of_beq_eq_true->aat,lt_of_lt_of_le->aci,le_trans->acR,mul_le_mul_right->adh,zero_le->abm,zero_add->aa5,le_refl->abk,lt_or_ge->ac9,min_eq_left->ad1,add_sub_cancel_left->aeH,add_mul->aeu,ble->abD,le_of_ble_eq_true->adp,zero_mul->aey,add_zero->adC,succ_mul->aew,mul_zero->aeK,not_lt->aec,mod_lt->aeM
open Bool renaming and_eq_true->f4,not_eq_true'->ac8,or_eq_true->adf,not_true->ad7,false_or->adD
open Array renaming replicate->abw,getD_eq_getD_getElem?->aer,getElem?_setIfInBounds_ne->aeB,setIfInBounds_comm->aeF,toArray_toList->adG,length_toList->aeD
namespace Go.AM
open Go.RowKit
variable{w:World}{h:Int}{sz n e by_ i j N nx q:Nat}{t:TypeId}{els:Go.AM.Lad}{g m gy:Bool}{a:Act}{nob:Go.AM.Laa}{sl:Go.AM.Lab}{u:Value}{P:Program}{α:Type}
section
variable{P:Program}{d:Option Tmp}{ty:TypeId}{ps:String}{af:Array Edge}{gd:Option (Nat×Bool)}{x y z:Operand}
theorem K5{E:Env}{o b l h c:Nat}(hr:E.r o=ς (b,c))(h1:l<=h)(h2:h<=n)(hlc:n<=c):cvC E w (.s o sz l (h-l)) (sliced (ς ⟨b,0,ξ⟩) l h c sz):=by
 refine⟨_,_,b,c,hr,rfl,by omega,by omega,?_⟩
 by_cases hlh:c=l
 .left;omega
 right
 rw[if_neg oaa]
 simp[Addr.add]
 omega
theorem QM{t:Nat}{g2:Bool}{o:Nat}{rt:TypeId}{hi:Operand}[ht:dz P t e sz by_](hn:els.length=n)(h0:0<=h)(h2:h<=n):
 AWN P ⟨d,.slice t x ξ (ς hi) ξ,ty,ps,af,gd⟩ [(x,.v (.c (.w o n))),(hi,.v (.c (.d g2 (.i .i64 h))))] [(o,.row rt sz els g m)] (.v (.c (.s o sz 0 h.toNat))) []:=
 cA λE ac w hne hob=>by
  have k1:=hne x _ (.head _)
  have k3:=ic (hne hi _ (.tail _ (.head _)))
  obtain⟨b,c,hr,hu⟩:=k1
  obtain⟨b',c',arr,hr',_,_,hlc,_⟩:=hob o _ (.head _)
  rw[hr] at hr';cases hr'
  obtain⟨i,z,hi1,hi2,_⟩:=ht.i
  obtain⟨he,hu'⟩:=CG ht.u
  refine⟨sliced (ς ⟨b,0,ξ⟩) 0 h.toNat c sz,?_,K5 (w:=w) (n:=n) hr (abm _) oaa oaa⟩
  simp[execOp,hu,k3,run_sliceAt_slice w t _ _ _ _ hu',run_slice_h w t (ς ⟨b,0,ξ⟩) n c hu' .i64 h h0 oaa,he,ey hi1,hi2]
theorem QN{t:Nat}{g2:Bool}{o:Nat}{rt:TypeId}{l:Int}{lo:Operand}[ht:dz P t e sz by_](hn:els.length=n)(h0:0<=l)(h2:l<=n):
 AWN P ⟨d,.slice t x (ς lo) ξ ξ,ty,ps,af,gd⟩ [(x,.v (.c (.w o n))),(lo,.v (.c (.d g2 (.i .i64 l))))] [(o,.row rt sz els g m)] (.v (.c (.s o sz l.toNat (n-l.toNat)))) []:=
 cA λE ac w hne hob=>by
  have k1:=hne x _ (.head _)
  have k3:=ic (hne lo _ (.tail _ (.head _)))
  obtain⟨b,c,hr,hu⟩:=k1
  obtain⟨b',c',arr,hr',_,_,hlc,_⟩:=hob o _ (.head _)
  rw[hr] at hr';cases hr'
  obtain⟨i,z,hi1,hi2,_⟩:=ht.i
  obtain⟨he,hu'⟩:=CG ht.u
  refine⟨sliced (ς ⟨b,0,ξ⟩) l.toNat n c sz,?_,K5 (w:=w) (n:=n) hr oaa (abk _) oaa⟩
  simp[execOp,hu,k3,run_sliceAt_slice w t _ _ _ _ hu',run_slice_l w t (ς ⟨b,0,ξ⟩) n c hu' .i64 l h0 oaa,he,ey hi1,hi2]
theorem QI{kd:IntKind}{o:Nat}{i:Int}[ht:dz P t e sz by_](h0:0<=i)(h1:i<n):
 AWN P ⟨d,.indexAddr t x y,ty,ps,af,gd⟩ [(x,.v (.c (.wn o n))),(y,.v (.c (.d g (.i kd i))))] [] (.v (.c (.e o sz i.toNat 0))) []:=by
 intro cx E a w ok hn hb hf
 have h2:cvT E w (.v (.c (.w o n))) (a.eval x):=by
  rcases hn x _ (.head _) with⟨_,h,_⟩|⟨_,h⟩
  .omega
  exact h
 exact KL (P:=P) (d:=d) (ty:=ty) (ps:=ps) (af:=af) (gd:=gd) (g:=g) (kd:=kd) (t:=t) h0 h1 cx E a w ok (λz u hm=>by
  grind) (λ_ _ h=>by cases h) hf
theorem Fr{E:Env}{o:Nat}{rt:TypeId}{el:List D}(he:els[i]?=ς el)(h:cN E w o (.rown rt sz els g)):cN E w o (.row rt sz els g ζ):=by
 rcases h with⟨_,h⟩|⟨_,b,c,arr,k1,k2,k3,k4,k5,k6,k7,k8⟩
 .simp_all
 exact⟨b,c,arr,k1,k2,k3,k4,k5,k6,k7,λ_=>k8.1,(λh=>by cases h),θ⟩
theorem Vj{o:Nat}{rt:TypeId}{el:List D}{c:C}[ht:g9 P t](he:els[i]?=ς el)(hc:ld1 g j el=ς c):
 AWN P ⟨d,.load t x,ty,ps,af,gd⟩ [(x,.v (.c (.e o sz i j)))] [(o,.rown rt sz els g)] (.v (.c c)) []:=by
 intro cx E a w ok hn hb hf
 exact KM (P:=P) (m:=ζ) he hc cx E a w ok hn (λl x h=>by simp at h;obtain⟨rfl,rfl⟩:=h;exact Fr he (hb _ _ (.head _))) hf
theorem JX{o:Nat}{rt:TypeId}{el:List D}{cs:List C}[ht:en P t n](he:els[i]?=ς el)(hj:HW g j n el=ς cs):
 AWN P ⟨d,.load t x,ty,ps,af,gd⟩ [(x,.v (.c (.e o sz i j)))] [(o,.rown rt sz els g)] (.v (.agg cs)) []:=by
 intro cx E a w ok hn hb hf
 exact Bw (P:=P) (m:=ζ) he hj cx E a w ok hn (λl x h=>by simp at h;obtain⟨rfl,rfl⟩:=h;exact Fr he (hb _ _ (.head _))) hf
theorem abl{f:FuncId}{args:Array Operand}{tys:Array TypeId}(h:a.eval x= .func (.func f) #[] #[]):
 execOp a.eval ⟨d,.call ⟨.value x,args,tys⟩,ty,ps,af,gd⟩=execOp a.eval ⟨d,.call ⟨.value (.func f),args,tys⟩,ty,ps,af,gd⟩:=by
 have e:a.eval (.func f)= .func (.func f) #[] #[]:=rfl
 simp only[execOp,resolve,h,e]
theorem awn_fn{f:FuncId}{args:Array Operand}{tys:Array TypeId}{needs:List (Operand×T)}{nw:Laa}{out:T}(h:AWN P ⟨d,.call ⟨.value (.func f),args,tys⟩,ty,ps,af,gd⟩ needs nob out nw):
 AWN P ⟨d,.call ⟨.value x,args,tys⟩,ty,ps,af,gd⟩ ((x,.v (.c (.fn f)))::needs) nob out nw:=by
 intro cx E a w ok hn hb hf
 have:=h cx E a w ok (λy t hm=>hn y t (.tail _ hm)) hb hf
 have e:a.eval x= .func (.func f) #[] #[]:=hn x _ (.head _)
 unfold Oper.wp at this ⊢
 rw[abl e]
 exact this
end
section
variable{P:Program}{N:Nat}{d:Tmp}{ty:TypeId}{ps:String}{af:Array Edge}{gd:Option (Nat×Bool)}{x y z:Operand}{sl:Lab}{ob:Laa}{nx:Nat}{α:Type}{enc:α->List D}
theorem OK{f:FuncId}{args:Array Operand}{tys:Array TypeId}{st st':St}{i:Inf}(hx:opT st.sl x= .v (.c (.fn f)))(h:NS P N ⟨ς d,.call ⟨.value (.func f),args,tys⟩,ty,ps,af,gd⟩ st st' i):
 NS P N ⟨ς d,.call ⟨.value x,args,tys⟩,ty,ps,af,gd⟩ st st' {i with needs:=(x,.v (.c (.fn f)))::i.needs}:=by
 obtain⟨h1,h2,h3,h4,h5,h6,h7⟩:=h
 exact⟨awn_fn h1,h2,h3,⟨hx,h4⟩,h5,h6,h7⟩
theorem cwhT{t:Nat}{g2:Bool}{o:Nat}{ys:List α}{rt:TypeId}{hi:Operand}[ht:dz P t e sz by_](H:d6 ys 0 h=ζ)(hn:ys.length=n)(hx:opT sl x= .v (.c (.w o n)))(ho:go ob o=ς (.row rt sz (ys.map enc) g m))(hh:opT sl hi= .v (.c (.d g2 (.i .i64 h))))(hN:nlt d N=ζ):
 NS0 P N ⟨ς d,.slice t x ξ (ς hi) ξ,ty,ps,af,gd⟩ sl ob nx d (.v (.c (.s o sz 0 h.toNat))) ⟨d,[(x,.v (.c (.w o n))),(hi,.v (.c (.d g2 (.i .i64 h))))],[(o,.row rt sz (ys.map enc) g m)],.v (.c (.s o sz 0 h.toNat)),[]⟩:=by
 simp only[d6,decide_eq_true_eq] at H
 exact dx (st:=⟨sl,ob,nx⟩) (QM (by simp_all) H.2.1 oaa) rfl hN ⟨hx,hh,θ⟩ ⟨ho,θ⟩ rfl
theorem Ux{t:Nat}{g2:Bool}{o:Nat}{ys:List α}{rt:TypeId}{l:Int}{lo:Operand}[ht:dz P t e sz by_](H:d6 ys l ys.length=ζ)(hn:ys.length=n)(hx:opT sl x= .v (.c (.w o n)))(ho:go ob o=ς (.row rt sz (ys.map enc) g m))(hl:opT sl lo= .v (.c (.d g2 (.i .i64 l))))(hN:nlt d N=ζ):
 NS0 P N ⟨ς d,.slice t x (ς lo) ξ ξ,ty,ps,af,gd⟩ sl ob nx d (.v (.c (.s o sz l.toNat (n-l.toNat)))) ⟨d,[(x,.v (.c (.w o n))),(lo,.v (.c (.d g2 (.i .i64 l))))],[(o,.row rt sz (ys.map enc) g m)],.v (.c (.s o sz l.toNat (n-l.toNat))),[]⟩:=by
 simp only[d6,decide_eq_true_eq] at H
 exact dx (st:=⟨sl,ob,nx⟩) (QN (by simp_all) H.1 oaa) rfl hN ⟨hx,hl,θ⟩ ⟨ho,θ⟩ rfl
theorem PF{o:Nat}{ys:List α}(H:d6 ys 0 h=ζ)(ho:go ob o=ς (.row t sz (ys.map enc) g m)):Src ob (.s o sz 0 h.toNat) ((ys.take h.toNat).map enc) g:=by
 simp only[d6,decide_eq_true_eq] at H
 have:=Src.s (off:=0) (len:=h.toNat) ho (by simp;omega)
 simp_all
theorem Jf{o:Nat}{ys:List α}{l:Int}(H:d6 ys l ys.length=ζ)(hn:ys.length=n)(ho:go ob o=ς (.row t sz (ys.map enc) g m)):Src ob (.s o sz l.toNat (n-l.toNat)) ((ys.drop l.toNat).map enc) g:=by
 simp only[d6,decide_eq_true_eq] at H
 subst hn
 have:=Src.s (off:=l.toNat) (len:=ys.length-l.toNat) ho (by simp;omega)
 rwa [<-aeg,List.take_of_length_le (by simp)] at this
theorem xwnT{kd:IntKind}{o:Nat}{i:Int}{ys:List α}{a:α}[dz P t e sz by_](H:ix ys i=ς a)(hx:opT sl x= .v (.c (.wn o n)):=by exact rfl)(hy:opT sl y= .v (.c (.d g (.i kd i))):=by exact rfl)(hn:ys.length=n:=by first|rfl|simp)(hN:nlt d N=true:=by exact rfl):
 NS0 P N ⟨ς d,.indexAddr t x y,ty,ps,af,gd⟩ sl ob nx d (.v (.c (.e o sz i.toNat 0))) ⟨d,[(x,.v (.c (.wn o n))),(y,.v (.c (.d g (.i kd i))))],[],.v (.c (.e o sz i.toNat 0)),[]⟩:=
 dx (st:=⟨sl,ob,nx⟩) (QI (ixE H).1 (by have:=SQ H;omega)) rfl hN ⟨hx,hy,θ⟩ trivial rfl
theorem oen{o:Nat}{rt:TypeId}{el:List D}{c:C}[g9 P t](hx:opT sl x= .v (.c (.e o sz i j)):=by exact rfl)(ho:go ob o=ς (.rown rt sz els g):=by exact rfl)(hN:nlt d N=true:=by exact rfl)(he:els[i]?=ς el)(hc:ld1 g j el=ς c:=by exact rfl):
 NS0 P N ⟨ς d,.load t x,ty,ps,af,gd⟩ sl ob nx d (.v (.c c)) ⟨d,[(x,.v (.c (.e o sz i j)))],[(o,.rown rt sz els g)],.v (.c c),[]⟩:=dx (st:=⟨sl,ob,nx⟩) (Vj he hc) rfl hN ⟨hx,θ⟩ ⟨ho,θ⟩ rfl
theorem oean{o:Nat}{rt:TypeId}{el:List D}{cs:List C}[en P t n](hx:opT sl x= .v (.c (.e o sz i j)):=by exact rfl)(ho:go ob o=ς (.rown rt sz els g):=by exact rfl)(hN:nlt d N=true:=by exact rfl)(he:els[i]?=ς el)(hc:HW g j n el=ς cs:=by exact rfl):
 NS0 P N ⟨ς d,.load t x,ty,ps,af,gd⟩ sl ob nx d (.v (.agg cs)) ⟨d,[(x,.v (.c (.e o sz i j)))],[(o,.rown rt sz els g)],.v (.agg cs),[]⟩:=dx (st:=⟨sl,ob,nx⟩) (JX he hc) rfl hN ⟨hx,θ⟩ ⟨ho,θ⟩ rfl
theorem Ya{ys:List α}{i:Int}{a:α}(H:ix ys i=ς a):ys.map enc≠[]:=by
 intro h
 have:=SQ H
 have h0:=(ixE H).1
 rw[List.map_eq_nil_iff] at h
 grind
end
theorem wnn{k o n':Nat}(h:gt sl k= .v (.c (.wn o n)))(hn:n=n'):gt sl k= .v (.c (.wn o n')):=hn▸h
def XK(o:Nat)(x:D)(g:Bool)(k:Nat):C->Option (C×Lac)
 | .wn l n=>match fW l o with
  |true=>ς (.d g x,[(k,n)])
  |false=>ς (.wn l n,[])
 |c=>ς (c,[])
def Kv(o:Nat)(x:D)(g:Bool)(k:Nat):List C->Option (List C×Lac)
 |[]=>ς ([],[])
 |c::cs=>match XK o x g k c,Kv o x g k cs with
  |some (x,e),ς (xs,es)=>ς (x::xs,e++es)
  |_,_=>ξ
def XM(o:Nat)(x:D)(g:Bool)(k:Nat):V->Option (V×Lac)
 | .c c=>match XK o x g k c with
  |some (x,e)=>ς (.c x,e)
  |none=>ξ
 | .agg cs=>match Kv o x g k cs with
  |some (x,e)=>ς (.agg x,e)
  |none=>ξ
def NR(o:Nat)(x:D)(g:Bool)(k:Nat):List V->Option (List V×Lac)
 |[]=>ς ([],[])
 |c::cs=>match XM o x g k c,NR o x g k cs with
  |some (x,e),ς (xs,es)=>ς (x::xs,e++es)
  |_,_=>ξ
def XL(o:Nat)(x:D)(g:Bool)(k:Nat):T->Option (T×Lac)
 | .v v=>match XM o x g k v with
  |some (x,e)=>ς (.v x,e)
  |none=>ξ
 | .tup vs=>match NR o x g k vs with
  |some (x,e)=>ς (.tup x,e)
  |none=>ξ
 | .any=>ς (.any,[])
def UD(o:Nat)(x:D)(g:Bool)(k:Nat):Lab->Option (Lab×Lac)
 |[]=>ς ([],[])
 |(j,t)::r=>match XL o x g k t,UD o x g k r with
  |some (x,e),ς (xs,es)=>ς ((j,x)::xs,e++es)
  |_,_=>ξ
def yF(o:Nat)(x:D)(g:Bool)(k:Nat):Laa->Option (Laa×Lac)
 |[]=>ς ([],[])
 |(j,.var t cs)::r=>match fW j o with
  |true=>ξ
  |false=>match Kv o x g k cs,yF o x g k r with
   |some (x,e),ς (xs,es)=>ς ((j,.var t x)::xs,e++es)
   |_,_=>ξ
 |(j,.row t sz els gg m)::r=>match yF o x g k r with
  |some (xs,es)=>match fW j o with
   |true=>ς (xs,es)
   |false=>ς ((j,.row t sz els gg m)::xs,es)
  |none=>ξ
 |(j,.rown t sz els gg)::r=>match yF o x g k r with
  |some (xs,es)=>match fW j o with
   |true=>ς (xs,es)
   |false=>ς ((j,.rown t sz els gg)::xs,es)
  |none=>ξ
 |(j,.abs i y)::r=>match yF o x g k r with
  |some (xs,es)=>match fW j o with
   |true=>ς (xs,es)
   |false=>ς ((j,.abs i y)::xs,es)
  |none=>ξ
section
variable{E E':Env}{w:World}{o k:Nat}{x:D}{g:Bool}(hd:∀u,cvC E w (.wn o k) u->cvC E' w (.d g x) u)(hk:iG E w E' w)
include hd hk
theorem Sw{c c':C}{e:Lac}(h:XK o x g k c=ς (c',e))(he:Eqs e)(hc:cvC E w c u):cvC E' w c' u:=by
 cases c with
 |wn l n=>
  simp only[XK] at h
  split at h
  .rename_i hb
   have:=aat hb
   subst this
   simp at h;obtain⟨rfl,rfl⟩:=h
   have hn:k=n:=he.1
   simp_all
  simp at h;obtain⟨rfl,rfl⟩:=h;exact wb hk hc
 |_=>simp only[XK,Option.some.injEq,Prod.mk.injEq] at h;obtain⟨rfl,rfl⟩:=h;exact wb hk hc
theorem Hp:∀{cs cs':List C} {e:Lac} {us:Lae},Kv o x g k cs=ς (cs',e)->Eqs e->CV E w cs us->CV E' w cs' us
 |[],cs',e,us,h,_,hc=>by
  simp[Kv] at h;obtain⟨rfl,rfl⟩:=h
  cases us with
  |nil=>trivial
  |cons _ _=>exact hc.elim
 |c::cs,cs',e,us,h,he,hc=>by
  cases us with
  |nil=>exact hc.elim
  |cons u us=>
   simp only[Kv] at h
   split at h
   .rename_i h1 h2
    simp at h;obtain⟨rfl,rfl⟩:=h
    obtain⟨k1,k2⟩:=dE he
    exact⟨Sw hd hk h1 k1 hc.1,Hp h2 k2 hc.2⟩
   cases h
theorem Sx{v v':V}{e:Lac}(h:XM o x g k v=ς (v',e))(he:Eqs e)(hv:cvV E w v u):cvV E' w v' u:=by
 cases v with
 |c c=>
  simp only[XM] at h
  split at h
  .rename_i h1;simp at h;obtain⟨rfl,rfl⟩:=h;exact Sw hd hk h1 he hv
  cases h
 |agg cs=>
  simp only[XM] at h
  split at h
  .rename_i h1;simp at h;obtain⟨rfl,rfl⟩:=h;obtain⟨arr,hu,hc⟩:=hv;exact⟨arr,hu,Hp hd hk h1 he hc⟩
  cases h
theorem NT:∀{cs cs':List V} {e:Lac} {us:Lae},NR o x g k cs=ς (cs',e)->Eqs e->VV E w cs us->VV E' w cs' us
 |[],cs',e,us,h,_,hc=>by
  simp[NR] at h;obtain⟨rfl,rfl⟩:=h
  cases us with
  |nil=>trivial
  |cons _ _=>exact hc.elim
 |c::cs,cs',e,us,h,he,hc=>by
  cases us with
  |nil=>exact hc.elim
  |cons u us=>
   simp only[NR] at h
   split at h
   .rename_i h1 h2
    simp at h;obtain⟨rfl,rfl⟩:=h
    obtain⟨k1,k2⟩:=dE he
    exact⟨Sx hd hk h1 k1 hc.1,NT h2 k2 hc.2⟩
   cases h
theorem abt{v v':T}{e:Lac}(h:XL o x g k v=ς (v',e))(he:Eqs e)(hv:cvT E w v u):cvT E' w v' u:=by
 cases v with
 |v v=>
  simp only[XL] at h
  split at h
  .rename_i h1;simp at h;obtain⟨rfl,rfl⟩:=h;exact Sx hd hk h1 he hv
  cases h
 |tup vs=>
  simp only[XL] at h
  split at h
  .rename_i h1;simp at h;obtain⟨rfl,rfl⟩:=h;obtain⟨arr,hu,hc⟩:=hv;exact⟨arr,hu,NT hd hk h1 he hc⟩
  cases h
 |any=>simp[XL] at h;obtain⟨rfl,rfl⟩:=h;trivial
theorem LJ{j:Nat}{u:Value}:∀{sl sl':Lab} {e:Lac},UD o x g k sl=ς (sl',e)->Eqs e->cvT E w (gt sl j) u->cvT E' w (gt sl' j) u
 |[],sl',e,h,_,_=>by simp[UD] at h;obtain⟨rfl,rfl⟩:=h;trivial
 |(i,t)::r,sl',e,h,he,hc=>by
  simp only[UD] at h
  split at h
  .rename_i h1 h2
   simp at h;obtain⟨rfl,rfl⟩:=h
   obtain⟨k1,k2⟩:=dE he
   by_cases hj:i=j
   .subst hj;rw[da] at hc ⊢;exact abt hd hk h1 k1 hc
   rw[ck _ _ hj] at hc ⊢;exact LJ h2 k2 hc
  cases h
theorem sj{l:Nat}{y:Ob}(hlo:l≠o)(hF:∀b c,E.r l=ς (b,c)->¬E.F b->¬E'.F b):∀{ob ob':Laa} {e:Lac},yF o x g k ob=ς (ob',e)->Eqs e->go ob' l=ς y->(∀y,go ob l=ς y->cN E w l y)->cN E' w l y
 |[],ob',e,h,_,hy,_=>by simp[yF] at h;obtain⟨rfl,rfl⟩:=h;cases hy
 |(i,.var t cs)::r,ob',e,h,he,hy,hb=>by
  simp only[yF] at h
  split at h
  .cases h
  split at h
  .rename_i a1 a2
   simp at h;obtain⟨rfl,rfl⟩:=h
   obtain⟨k1,k2⟩:=dE he
   by_cases hi:i=l
   .subst hi
    rw[bX] at hy;cases hy
    obtain⟨b,c,arr,q1,q2,q3,q4⟩:=hb _ (bX _ _ _)
    exact⟨b,c,arr,hk.r _ _ q1,q2,Hp hd hk a1 k1 q3,hF b c q1 q4⟩
   rw[bg _ _ hi] at hy
   exact sj hlo hF a2 k2 hy (λy hy=>hb y (by rw[bg _ _ hi];exact hy))
  cases h
 |(i,.row t sz els gg m)::r,ob',e,h,he,hy,hb=>by
  simp only[yF] at h
  split at h
  .rename_i a2
   split at h
   .rename_i hb2
    simp at h;obtain⟨rfl,rfl⟩:=h
    have hio:=aat hb2
    exact sj hlo hF a2 he hy (λy hy=>hb y (by rw[bg _ _ (λe=>hlo (e.symm.trans hio))];exact hy))
   simp at h;obtain⟨rfl,rfl⟩:=h
   by_cases hi:i=l
   .subst hi
    rw[bX] at hy;cases hy
    exact fG hk (λ_ _ _=>rfl) (λb c hr=>hF b c hr) (hb _ (bX _ _ _))
   rw[bg _ _ hi] at hy
   exact sj hlo hF a2 he hy (λy hy=>hb y (by rw[bg _ _ hi];exact hy))
  cases h
 |(i,.rown t sz els gg)::r,ob',e,h,he,hy,hb=>by
  simp only[yF] at h
  split at h
  .rename_i a2
   split at h
   .rename_i hb2
    simp at h;obtain⟨rfl,rfl⟩:=h
    have hio:=aat hb2
    exact sj hlo hF a2 he hy (λy hy=>hb y (by rw[bg _ _ (λe=>hlo (e.symm.trans hio))];exact hy))
   simp at h;obtain⟨rfl,rfl⟩:=h
   by_cases hi:i=l
   .subst hi
    rw[bX] at hy;cases hy
    exact fG hk (λ_ _ _=>rfl) (λb c hr=>hF b c hr) (hb _ (bX _ _ _))
   rw[bg _ _ hi] at hy
   exact sj hlo hF a2 he hy (λy hy=>hb y (by rw[bg _ _ hi];exact hy))
  cases h
 |(i,.abs _ _)::r,ob',e,h,he,hy,hb=>by
  simp only[yF] at h
  split at h
  .rename_i a2
   split at h
   .rename_i hb2
    simp at h;obtain⟨rfl,rfl⟩:=h
    have hio:=aat hb2
    exact sj hlo hF a2 he hy (λy hy=>hb y (by rw[bg _ _ (λe=>hlo (e.symm.trans hio))];exact hy))
   simp at h;obtain⟨rfl,rfl⟩:=h
   by_cases hi:i=l
   .subst hi
    rw[bX] at hy;cases hy
    exact fG hk (λ_ _ _=>rfl) (λb c hr=>hF b c hr) (hb _ (bX _ _ _))
   rw[bg _ _ hi] at hy
   exact sj hlo hF a2 he hy (λy hy=>hb y (by rw[bg _ _ hi];exact hy))
  cases h
end
theorem lY{o k:Nat}{x:D}{g:Bool}:∀{ob ob':Laa} {e:Lac},yF o x g k ob=ς (ob',e)->go ob' o=ξ
 |[],ob',e,h=>by simp[yF] at h;obtain⟨rfl,rfl⟩:=h;rfl
 |(i,.var t cs)::r,ob',e,h=>by
  simp only[yF] at h
  split at h
  .cases h
  rename_i hb
  split at h
  .rename_i a1 a2
   simp at h;obtain⟨rfl,rfl⟩:=h
   rw[bg _ _ (hP hb)];exact lY a2
  cases h
 |(i,.row t sz els gg m)::r,ob',e,h=>by
  simp only[yF] at h
  split at h
  .rename_i a2
   split at h
   .simp at h;obtain⟨rfl,rfl⟩:=h;exact lY a2
   rename_i hb
   simp at h;obtain⟨rfl,rfl⟩:=h
   rw[bg _ _ (hP hb)];exact lY a2
  cases h
 |(i,.rown t sz els gg)::r,ob',e,h=>by
  simp only[yF] at h
  split at h
  .rename_i a2
   split at h
   .simp at h;obtain⟨rfl,rfl⟩:=h;exact lY a2
   rename_i hb
   simp at h;obtain⟨rfl,rfl⟩:=h
   rw[bg _ _ (hP hb)];exact lY a2
  cases h
 |(i,.abs _ _)::r,ob',e,h=>by
  simp only[yF] at h
  split at h
  .rename_i a2
   split at h
   .simp at h;obtain⟨rfl,rfl⟩:=h;exact lY a2
   rename_i hb
   simp at h;obtain⟨rfl,rfl⟩:=h
   rw[bg _ _ (hP hb)];exact lY a2
  cases h
theorem eD{ty:Nat}{sl':Lab}{ob ob':Laa}{e1 e2:Lac}(o:Nat)(hrv:rsv o=false:=by exact rfl)(ho:go ob o=ς (.rown ty sz els g):=by exact rfl)(hs:UD o (.l els) g els.length sl=ς (sl',e1):=by exact rfl)(hb:yF o (.l els) g els.length ob=ς (ob',e2):=by exact rfl)(h1:Eqs e1:=by repeat (first|exact θ|refine⟨by first|rfl|simp,?_⟩))(h2:Eqs e2:=by repeat (first|exact θ|refine⟨by first|rfl|simp,?_⟩)):
 cO N ⟨sl,ob,nx⟩ ⟨sl',ob',nx⟩:=by
 intro cx E a w hR
 rcases hR.obs o _ ho with⟨hE,hels⟩|⟨hE,b,c,arr,hr,hh,ha,hlc,hmx,hes,hrd,hF⟩
 .have hk:iG E w E w:=⟨λ_ _ h=>h,λ_ _ h=>h,λ_ _ _=>rfl,λ_ _ h=>⟨h,rfl⟩,λ_ h=>⟨h,.refl _ _⟩,rfl⟩
  have hd:∀u,cvC E w (.wn o els.length) u->cvC E w (.d g (.l els)) u:=by
   intro u hu
   rcases hu with⟨_,_,rfl⟩|⟨hu,_⟩
   .subst hels;show rdD _ _ _ _;rw[rdD];simp_all
   simp_all
  refine⟨E,hR.ok,hR.dom,λl y hl=>?_,λj=>LJ hd hk hs h1 (hR.sl j),hR.dfr,hR.size,hR.td⟩
  by_cases e:l=o
  .subst e;rw[lY hb] at hl;cases hl
  exact sj hd hk e (λ_ _ _ h=>h) hb h2 hl (λy hy=>hR.obs l y hy)
 obtain⟨hb1,hb2⟩:=hR.ok.rb o b c hr
 have hb3:cx.In b:=hb2.resolve_right (λh=>by simp_all)
 let E':Env:=⟨E.r,λk=>E.F k\/k=b,λk=>E.G k\/(g=ζ/\k=b),E.T,E.Z,E.n⟩
 have hH:∀(g':Bool) k,E.H g' k->E'.H g' k:=λg' k hk=>by cases g'<;>exact Or.inl hk
 have hk:iG E w E' w:=⟨λ_ _ h=>h,hH,λ_ _ _=>rfl,λ_ _ h=>⟨h,rfl⟩,λ_ h=>⟨h,.refl _ _⟩,rfl⟩
 have hd:∀u,cvC E w (.wn o els.length) u->cvC E' w (.d g (.l els)) u:=by
  intro u hu
  rcases hu with⟨hu,_⟩|⟨_,b',c',hr',rfl⟩
  .simp_all
  rw[hr] at hr';cases hr'
  show rdD _ _ _ _
  rw[rdD]
  refine⟨_,_,rfl,hlc,.inr ⟨b,0,rfl,?_,bP (λ_ _=>rfl) (hH g) rfl _ _ hrd⟩⟩
  cases g
  .exact .inr rfl
  exact .inr ⟨rfl,rfl⟩
 refine⟨E',⟨?_,?_,?_,hR.ok.rb,hR.ok.inj,hR.ok.os,hR.ok.tape,hR.ok.output,hR.ok.size,hR.ok.block,hR.ok.pin,λk hk=>hk.elim (hR.ok.ff k) (λe=>e▸hb3.nf),λk hk hk'=>hk.elim (λh=>hR.ok.gc k h hk') (λe=>e▸.mk hh),
  ⟨λl k h=>?_,hR.ok.sf.tt,λk h=>?_,hR.ok.sf.zs,hR.ok.sf.ze⟩⟩,hR.dom,λl y hl=>?_,λj=>LJ hd hk hs h1 (hR.sl j),hR.dfr,hR.size,hR.td⟩
 .rintro k (h|rfl)
  .exact hR.ok.fb k h
  exact hb1
 .rintro k (h|⟨_,rfl⟩)
  .exact .inl (hR.ok.gf k h)
  omega
 .rintro k (h|⟨_,rfl⟩)
  .exact hR.ok.gn k h
  exact hb3.ng
 .obtain⟨h1,h2,h3,h4⟩:=hR.ok.sf.tb l k h
  grind
 .obtain⟨h1,h2,h3,h4⟩:=hR.ok.sf.zc k h
  grind
 by_cases e:l=o
 .subst e;rw[lY hb] at hl;cases hl
 exact sj hd hk e (λb' c' hr' hn hn'=>hn'.elim hn (λh=>by subst h;exact e (hR.ok.inj _ _ _ _ _ hr' hr))) hb h2 hl (λy hy=>hR.obs l y hy)
def RC.frz:RC->RC
 | .own _ _ els _=>.d (.l els)
 |r=>r
def RV.frz:RV->RV
 | .c r=>.c r.frz
 | .agg rs=>.agg (rs.map RC.frz)
def RC.full:RC->Prop
 | .own _ _ els n=>els.length=n
 |_=>True
def Qp:List RC->Prop
 |[]=>True
 |r::rs=>r.full/\Qp rs
def RV.full:RV->Prop
 | .c r=>r.full
 | .agg rs=>Qp rs
def Ho:List RV->Prop
 |[]=>True
 |r::rs=>r.full/\Ho rs
section
variable{w:World}{G G2:Nat->Prop}{base:Nat}
theorem Y7(hG:∀b,G b->G2 b){r:RC}{bs:Lac}(h:rcR w G base r u bs)(hf:r.full)(hb:∀p∈bs,G2 p.1):
 rcR w G2 base r.frz u []/\∀p∈bs,base<=p.1/\p.1<w.heap.size/\fR w p.1:=by
 cases r with
 |d x=>obtain⟨rfl,h⟩:=h;exact⟨⟨rfl,bQ (λ_ _=>rfl) hG _ _ h⟩,by simp⟩
 |nil=>obtain⟨rfl,h⟩:=h;exact⟨⟨rfl,h⟩,by simp⟩
 |own ty sz els n=>
  obtain⟨b,c,arr,rfl,rfl,hh,h1,h2,h3,h4,h5,h6,h7⟩:=h
  have hf:els.length=n:=hf
  refine⟨⟨rfl,ς ⟨b,0,ξ⟩,c,by rw[hf],h2,.inr ⟨b,0,rfl,hb _ (.head _),bP (λ_ _=>rfl) hG rfl _ _ h5⟩⟩,λp hp=>?_⟩
  obtain rfl:=List.mem_singleton.1 hp
  exact⟨h7,SB hh,.mk hh⟩
theorem TC(hG:∀b,G b->G2 b):∀{rs:List RC} {us:Lae} {bs:Lac},My w G base rs us bs->Qp rs->(∀p∈bs,G2 p.1)->
 My w G2 base (rs.map RC.frz) us []/\∀p∈bs,base<=p.1/\p.1<w.heap.size/\fR w p.1
 |[],[],bs,h,_,_=>by have h:bs=[]:=h;subst h;exact⟨rfl,by simp⟩
 |r::rs,u::us,bs,⟨b1,b2,e,h1,h2⟩,hf,hb=>by
  subst e
  obtain⟨k1,k2⟩:=Y7 hG h1 hf.1 (λp hp=>hb p (by simp[hp]))
  obtain⟨k3,k4⟩:=TC hG h2 hf.2 (λp hp=>hb p (by simp[hp]))
  exact⟨⟨[],[],rfl,k1,k3⟩,λp hp=>(aau.1 hp).elim (k2 p) (k4 p)⟩
 |[],_::_,_,h,_,_=>h.elim
 |_::_,[],_,h,_,_=>h.elim
theorem Zp(hG:∀b,G b->G2 b){r:RV}{bs:Lac}(h:rvR w G base r u bs)(hf:r.full)(hb:∀p∈bs,G2 p.1):
 rvR w G2 base r.frz u []/\∀p∈bs,base<=p.1/\p.1<w.heap.size/\fR w p.1:=by
 cases r with
 |c r=>exact Y7 hG h hf hb
 |agg rs=>
  obtain⟨arr,rfl,h⟩:=h
  obtain⟨k1,k2⟩:=TC hG h hf hb
  exact⟨⟨arr,rfl,k1⟩,k2⟩
theorem MG(hG:∀b,G b->G2 b):∀{rs:List RV} {us:Lae} {bs:Lac},MD w G base rs us bs->Ho rs->(∀p∈bs,G2 p.1)->
 MD w G2 base (rs.map RV.frz) us []/\∀p∈bs,base<=p.1/\p.1<w.heap.size/\fR w p.1
 |[],[],bs,h,_,_=>by have h:bs=[]:=h;subst h;exact⟨rfl,by simp⟩
 |r::rs,u::us,bs,⟨b1,b2,e,h1,h2⟩,hf,hb=>by
  subst e
  obtain⟨k1,k2⟩:=Zp hG h1 hf.1 (λp hp=>hb p (by simp[hp]))
  obtain⟨k3,k4⟩:=MG hG h2 hf.2 (λp hp=>hb p (by simp[hp]))
  exact⟨⟨[],[],rfl,k1,k3⟩,λp hp=>(aau.1 hp).elim (k2 p) (k4 p)⟩
 |[],_::_,_,h,_,_=>h.elim
 |_::_,[],_,h,_,_=>h.elim
theorem acx(hG:∀b,G b->G2 b){rs:List RV}{bs:Lac}(h:II w G base rs u bs)(hf:Ho rs)(hb:∀p∈bs,G2 p.1):
 II w G2 base (rs.map RV.frz) u []/\∀p∈bs,base<=p.1/\p.1<w.heap.size/\fR w p.1:=by
 cases rs with
 |nil=>obtain⟨arr,hu,h⟩:=h;obtain⟨k1,k2⟩:=MG hG h hf hb;exact⟨⟨arr,hu,k1⟩,k2⟩
 |cons r rs=>
  cases rs with
  |nil=>exact Zp hG h hf.1 hb
  |cons r2 rs=>obtain⟨arr,hu,h⟩:=h;obtain⟨k1,k2⟩:=MG hG h hf hb;exact⟨⟨arr,hu,k1⟩,k2⟩
end
theorem Fn.frzs{f:FuncId}{args:List AV}{res:List RV}(h:Fn P f args res)(hf:Ho res):Fn P f args (res.map RV.frz):=by
 refine⟨h.enters,λF w vals hF ht hA=>(h.calls F w vals hF ht hA).mono ?_⟩
 rintro e w' ⟨v,G,bs,he,hp,hG,hr,_⟩
 obtain⟨k1,k2⟩:=acx (G2:=λb=>G b\/∃p∈bs,p.1=b) (λb h=>.inl h) hr hf (λp hp=>.inr ⟨p,hp,rfl⟩)
 grind
theorem aa1{o:Oper}{needs:List (Operand×T)}{k:Nat}(hn:els.length=n)(h:AWK P o needs nob (.v (.c (.w q n))) [(q,.row e sz els g ζ)] [] (ς k)):AWK P o needs nob (.v (.c (.d g (.l els)))) [(q,.row e sz els g η)] [] (ς k):=by
 intro cx E a w ok hne hnob hfr
 obtain⟨hq1,hq2⟩:=hfr q _ (.head _)
 refine Oper.wp_mono ?_ (h cx E a w ok hne hnob (λl x hm=>by simp_all))
 rintro a' w' ⟨v,E',k1,ok',k3,⟨b,c,hr,hv⟩,k5,k6,k7⟩
 obtain⟨b',c',arr,hr',hh,ha,hlc,hmx,hes,hrd,hFm,_⟩:=k5 q _ (.head _)
 rw[hr] at hr';cases hr'
 have hF:=hFm rfl
 obtain⟨hb1,hb2⟩:=ok'.rb q b c hr
 have hb3:cx.In b:=by
  rcases hb2 with h|h
  .exact h
  simp_all
 let E2:Env:=⟨E'.r,λj=>E'.F j\/j=b,λj=>E'.G j\/(g=ζ/\j=b),E'.T,E'.Z,E'.n⟩
 have hH:∀(g':Bool) j,E'.H g' j->E2.H g' j:=λg' j hj=>by cases g'<;>exact Or.inl hj
 have hold:∀l c',k≠l->E.r l≠ς (b,c'):=λl c' hkl hl=>by
  have h1:=k3.r l _ (by simp_all) hl
  have:=ok'.inj _ _ _ _ _ h1 hr
  simp_all
 refine⟨v,E2,k1,⟨?_,?_,?_,ok'.rb,ok'.inj,ok'.os,ok'.tape,ok'.output,ok'.size,ok'.block,ok'.pin,λj hj=>hj.elim (ok'.ff j) (λe=>e▸hb3.nf),λj hj hj'=>hj.elim (λh=>ok'.gc j h hj') (λe=>e▸.mk hh),
  ⟨λl j h=>?_,ok'.sf.tt,λj h=>?_,ok'.sf.zs,ok'.sf.ze⟩⟩,⟨k3.r,λj hj=>.inl (k3.F j hj),λj hj=>.inl (k3.G j hj),?_,k3.heap,k3.own,k3.ownk,k3.T,k3.T',k3.Z,k3.n⟩,?_,λl x hm=>?_,(λ_ _ h=>by cases h),λl x hl=>?_⟩
 .rintro j (h|rfl)
  .exact ok'.fb j h
  exact hb1
 .rintro j (h|⟨_,rfl⟩)
  .exact .inl (ok'.gf j h)
  omega
 .rintro j (h|⟨_,rfl⟩)
  .exact ok'.gn j h
  exact hb3.ng
 .obtain⟨h1,h2,h3,h4⟩:=ok'.sf.tb l j h
  grind
 .obtain⟨h1,h2,h3,h4⟩:=ok'.sf.zc j h
  grind
 .rintro j (h|rfl)
  .exact k3.F' j h
  simp_all
 .refine⟨ς ⟨b,0,ξ⟩,c,by rw[hv,hn],hlc,.inr ⟨b,0,rfl,?_,bP (λ_ _=>rfl) (hH g) rfl _ _ hrd⟩⟩
  cases g
  .exact .inr rfl
  exact .inr ⟨rfl,rfl⟩
 .simp at hm;obtain⟨rfl,rfl⟩:=hm
  exact⟨b,c,arr,hr,hh,ha,hlc,hmx,hes,bP (λ_ _=>rfl) (hH g) rfl _ _ hrd,(λh=>by cases h),λ_=>⟨.inr rfl,λhg=>.inr ⟨by injection hg,rfl⟩⟩,θ⟩
 grind
section
variable{P:Program}{N:Nat}{d:Tmp}{ty:TypeId}{ps:String}{af:Array Edge}{gd:Option (Nat×Bool)}{x y:Operand}{sl:Lab}{ob:Laa}{nx:Nat}{α:Type}{enc:α->List D}
theorem Kb{o nx':Nat}{ys zs:List α}{zd:Lad}{c:C}(ls:List Nat)[dz P t e sz by_](H:c8 by_ (ys++zs).length=ζ)(hzd:zs.map enc=zd:=by exact rfl)(henc:∀a,(enc a).length=sz:=by exact λ_=>rfl)(hfl:∀a,uK (enc a)=true:=by exact λ_=>rfl)(hp:t8 ob ls=ς nob:=by exact rfl)(hd:nlt d N=true:=by exact rfl)(hx:opT sl x= .v (.c (.w o n)):=by exact rfl)(hy:opT sl y= .v (.c c):=by exact rfl)(hn:ys.length=n:=by first|rfl|simp)(hs:Src nob c zd gy:=by first|exact .d|exact .nil|exact .w rfl (by first|rfl|exact lm _|simp)|exact .wn rfl (by first|rfl|exact lm _|simp))(ho:go nob o=ς (.row e sz (ys.map enc) g ζ):=by exact rfl)(hrv:rsv o=false:=by exact rfl)(hnx:nxt nx=ς nx':=by exact rfl):
 NX P N ⟨ς d,.call ⟨.builtin .append,#[x,y],#[t,t]⟩,ty,ps,af,gd⟩ ⟨sl,ob,nx⟩ ⟨(d,.v (.c (.d ζ (.l ((ys++zs).map enc)))))::sl,(nx,.row e sz ((ys++zs).map enc) ζ η)::ob,nx'⟩
  ⟨⟨d,[(x,.v (.c (.w o n))),(y,.v (.c c))],nob,.v (.c (.d ζ (.l ((ys++zs).map enc)))),[(nx,.row e sz ((ys++zs).map enc) ζ η)]⟩,[],ς o⟩:=by
 obtain⟨h1,h2,h3,h4,h5,h6⟩:=No (P:=P) (N:=N) (t:=t) (x:=x) (y:=y) (enc:=enc) (d:=d) (ty:=ty) (ps:=ps) (af:=af) (gd:=gd) (sl:=sl) (ob:=ob) (nx:=nx) ls H hzd henc hfl hp hd hx hy hn hs ho hrv hnx
 exact⟨aa1 (by simp) h1,.inl ⟨rfl,bV hd⟩,h3,h4,rL hnx,rfl⟩
end
theorem V5{k:Nat}{ob:Laa}{cs cs':List C}(hk:gt sl k= .v (.agg cs):=by exact rfl)(hj:Gf j (.d ζ (.l [])) cs=ς cs':=by exact rfl):cO N ⟨sl,ob,nx⟩ ⟨(k,.v (.agg cs'))::sl,ob,nx⟩:=by
 intro cx E a w hR
 refine⟨E,hR.ok,hR.dom,hR.obs,λi=>?_,hR.dfr,hR.size,hR.td⟩
 by_cases e:k=i
 .subst e
  rw[da]
  have h1:=hR.sl k
  rw[hk] at h1
  obtain⟨arr,hu,h1⟩:=h1
  exact⟨arr,hu,DH (x:=.d ζ (.l [])) ⟨ξ,0,rfl,abk _,.inl rfl⟩ hj h1 h1⟩
 rw[ck _ _ e];exact hR.sl i
theorem s7{o:Nat}{ob:Laa}{vt:TypeId}{cs cs':List C}(ho:go ob o=ς (.var vt cs):=by exact rfl)(hj:Gf j (.d ζ (.l [])) cs=ς cs':=by exact rfl):cO N ⟨sl,ob,nx⟩ ⟨sl,(o,.var vt cs')::ob,nx⟩:=by
 intro cx E a w hR
 refine⟨E,hR.ok,hR.dom,λl x hl=>?_,hR.sl,hR.dfr,hR.size,hR.td⟩
 by_cases e:o=l
 .subst e
  rw[bX] at hl;cases hl
  obtain⟨b,c,arr,h1,h2,h3,h4⟩:=hR.obs o _ ho
  exact⟨b,c,arr,h1,h2,DH (x:=.d ζ (.l [])) ⟨ξ,0,rfl,abk _,.inl rfl⟩ hj h3 h3,h4⟩
 rw[bg _ _ e] at hl;exact hR.obs l x hl
section
variable{P:Program}{N:Nat}{ops:Array Oper}{p:Nat}{o:Oper}{l:List (Nat×Oper)}{dn seg:List Nat}{ys:List Inx}{base:St}{K:St->Prop}
theorem uE{ds:List Nat}{sl':Lab}{ob ob':Laa}{st0 st1 st2:St}(hs:Ab ops dn seg ys=ζ)(hkl:kls ys=ds)(hA:HT ds sl ob=ς (sl',ob'))(hb:G1 ops (seg++dn) p=ζ)(hw:cO N ⟨sl',ob',nx⟩ st0)(h:BO P N ops o st0 st1)(hw2:cO N st1 st2){dn':List Nat}(hlo:p::(seg++dn)=dn')(h':DZ P N ops l dn' [] [] st2 st2 K):DZ P N ops ((p,o)::l) dn seg ys base ⟨sl,ob,nx⟩ K:=by
 subst hlo
 exact .inr ⟨hs,hb,_,st0,st1,st2,G4 hkl hA,hw,h,hw2,h'⟩
end
structure KG(q l:Nat)(E:Env)(w:World)(E':Env)(w':World):Prop where
 r:∀o x,o≠q->E.r o=ς x->E'.r o=ς x
 H:∀(g:Bool) b,E.H g b->E'.H g b
 heap:∀(g:Bool) b,E.H g b->w'.heap[b]?=w.heap[b]?
 T:∀k b,k≠l->E.T k b->E'.T k b/\w'.heap[b]?=w.heap[b]?
 Z:∀b,E.Z b->E'.Z b/\vX w w' b
 n:∀o,o≠q->(E'.n o↔E.n o)
section
variable{q l:Nat}{E E':Env}{w w':World}
theorem KG.HH(x:KG q l E w E' w'):∀{g:Gr},g.hasR l=η->∀b,E.H g b->E'.H g b
 | .b g,_,b,h=>x.H g b h
 | .s k,hl,b,h| .t k,hl,b,h=>(x.T k b (hP hl) h).1
theorem KG.hp(x:KG q l E w E' w'):∀{g:Gr},g.hasR l=η->∀b,E.H g b->w'.heap[b]?=w.heap[b]?
 | .b g,_,b,h=>x.heap g b h
 | .s k,hl,b,h| .t k,hl,b,h=>(x.T k b (hP hl) h).2
def Ob.hasR(l:Nat):Ob->Bool
 | .var _ cs=>Hr l cs
 | .abs j _=>fW j l
 | .row _ _ _ g _| .rown _ _ _ g=>g.hasR l
end
def Qm(o:Nat):Laa->Laa
 |[]=>[]
 |(k,x)::r=>bif fW k o then Qm o r else(k,x)::Qm o r
theorem Gl{o l:Nat}{x:Ob}:∀{ob:Laa},go (Qm o ob) l=ς x->l≠o/\go ob l=ς x
 |[],h=>by cases h
 |(k,y)::r,h=>by
  rw[Qm] at h
  cases hk:fW k o with
  |true=>
   rw[hk] at h
   obtain⟨h1,h2⟩:=Gl h
   have:=aat hk;subst this
   exact⟨h1,by rw[bg _ _ (Ne.symm h1)];exact h2⟩
  |false=>
   rw[hk] at h
   by_cases e:k=l
   .subst e
    simp only[cond_false] at h
    rw[bX] at h ⊢;exact⟨hP hk,h⟩
   simp only[cond_false] at h
   rw[bg _ _ e] at h ⊢;exact Gl h
def nv:Option (Nat×Nat)->Nat->Value
 |none,_=>.slice ξ 0 0
 |some (k,c),n=>.slice (ς ⟨k,0,ξ⟩) n c
def RowI(w:World)(nt:TypeId)(k c:Nat)(xs:List Int):Prop:=(∃arr,w.heap[k]?=ς (.cells arr nt (0,0))/\arr.size=c)/\xs.length<=c/\c<=maxLen/\∀j x,xs[j]?=ς x->w.cell? ⟨k,j,ξ⟩=ς (.int .i64 x)
def NestI(w:World)(R:Nat->Prop)(nt:TypeId):Option (Nat×Nat)->List Int->Prop
 |none,xs=>xs=[]
 |some (k,c),xs=>R k/\RowI w nt k c xs
abbrev Hole:=Option (Nat×Option Addr×Nat×Nat)
def LR:Hole->Nat->Bool
 |none,_=>η
 |some (j,_),i=>fW j i
structure CxS(ty nt:TypeId)(els:List (Int×List Int))(ho:Hole)(b c:Nat)(R:Nat->Prop)(w:World)(hd:Nat->Option (Nat×Nat)):Prop where
 blk:∃arr,w.heap[b]?=ς (.cells arr ty (0,0))/\arr.size=c*2
 len:els.length<=c
 cap:c<=maxLen
 a:∀i e,els[i]?=ς e->w.cell? ⟨b,i*2,ξ⟩=ς (.int .i64 e.1)
 s:∀i e,els[i]?=ς e->LR ho i=η->w.cell? ⟨b,i*2+1,ξ⟩=ς (nv (hd i) e.2.length)
 ne:∀i e,els[i]?=ς e->LR ho i=η->NestI w R nt (hd i) e.2
 inj:∀i j k c c',i<els.length->j<els.length->LR ho i=η->LR ho j=η->hd i=ς (k,c)->hd j=ς (k,c')->i=j
 h:∀i A n k,ho=ς (i,A,n,k)->w.cell? ⟨b,i*2+1,ξ⟩=ς (.slice A n k)
section
variable{P:Program}{d:Option Tmp}{tt:TypeId}{ps:String}{af:Array Edge}{gd:Option (Nat×Bool)}{x y:Operand}
end
section
variable{P:Program}{N:Nat}{d:Tmp}{tt:TypeId}{ps:String}{af:Array Edge}{gd:Option (Nat×Bool)}{x y:Operand}{sl sl1 sl2:Lab}{ob ob1:Laa}{nx:Nat}
end
section
variable{P:Program}{N:Nat}{d:Tmp}{tt:TypeId}{ps:String}{af:Array Edge}{gd:Option (Nat×Bool)}{x y:Operand}{sl sl1 sl2:Lab}{ob ob1:Laa}{nx:Nat}{AQ:Exit->St->Prop}
end
section
variable{P:Program}{N:Nat}{sl sl1 sl2:Lab}{ob ob1:Laa}{nx:Nat}{AQ:Exit->St->Prop}
end
def pinned(m:Lac):Lac:=(m.filter λp=>rsp p.1).map λp=>(p.2,p.1)
theorem W0{o:Oper}{needs:List (Operand×T)}(hn:els.length=n)(h:AWK P o needs nob (.v (.c (.w q n))) [(q,.row e sz els g ζ)] [] ξ):AWK P o needs nob (.v (.c (.d g (.l els)))) [(q,.row e sz els g η)] [] none:=by
 intro cx E a w ok hne hnob hfr
 obtain⟨hq1,hq2⟩:=hfr q _ (.head _)
 refine Oper.wp_mono ?_ (h cx E a w ok hne hnob (λl x hm=>by simp_all))
 rintro a' w' ⟨v,E',k1,ok',k3,⟨b,c,hr,hv⟩,k5,k6,k7⟩
 obtain⟨b',c',arr,hr',hh,ha,hlc,hmx,hes,hrd,hFm,_⟩:=k5 q _ (.head _)
 rw[hr] at hr';cases hr'
 have hF:=hFm rfl
 obtain⟨hb1,hb2⟩:=ok'.rb q b c hr
 have hb3:cx.In b:=by
  rcases hb2 with h|h
  .exact h
  simp_all
 let E2:Env:=⟨E'.r,λj=>E'.F j\/j=b,λj=>E'.G j\/(g=ζ/\j=b),E'.T,E'.Z,E'.n⟩
 have hH:∀(g':Bool) j,E'.H g' j->E2.H g' j:=λg' j hj=>by cases g'<;>exact Or.inl hj
 have hold:∀l c',E.r l≠ς (b,c'):=λl c' hl=>by
  have h1:=k3.r l _ (by simp) hl
  have:=ok'.inj _ _ _ _ _ h1 hr
  simp_all
 refine⟨v,E2,k1,⟨?_,?_,?_,ok'.rb,ok'.inj,ok'.os,ok'.tape,ok'.output,ok'.size,ok'.block,ok'.pin,λj hj=>hj.elim (ok'.ff j) (λe=>e▸hb3.nf),λj hj hj'=>hj.elim (λh=>ok'.gc j h hj') (λe=>e▸.mk hh),
  ⟨λl j h=>?_,ok'.sf.tt,λj h=>?_,ok'.sf.zs,ok'.sf.ze⟩⟩,⟨k3.r,λj hj=>.inl (k3.F j hj),λj hj=>.inl (k3.G j hj),?_,k3.heap,k3.own,k3.ownk,k3.T,k3.T',k3.Z,k3.n⟩,?_,λl x hm=>?_,(λ_ _ h=>by cases h),λl x hl=>?_⟩
 .rintro j (h|rfl)
  .exact ok'.fb j h
  exact hb1
 .rintro j (h|⟨_,rfl⟩)
  .exact .inl (ok'.gf j h)
  omega
 .rintro j (h|⟨_,rfl⟩)
  .exact ok'.gn j h
  exact hb3.ng
 .obtain⟨h1,h2,h3,h4⟩:=ok'.sf.tb l j h
  grind
 .obtain⟨h1,h2,h3,h4⟩:=ok'.sf.zc j h
  grind
 .rintro j (h|rfl)
  .exact k3.F' j h
  simp_all
 .refine⟨ς ⟨b,0,ξ⟩,c,by rw[hv,hn],hlc,.inr ⟨b,0,rfl,?_,bP (λ_ _=>rfl) (hH g) rfl _ _ hrd⟩⟩
  cases g
  .exact .inr rfl
  exact .inr ⟨rfl,rfl⟩
 .simp at hm;obtain⟨rfl,rfl⟩:=hm
  exact⟨b,c,arr,hr,hh,ha,hlc,hmx,hes,bP (λ_ _=>rfl) (hH g) rfl _ _ hrd,(λh=>by cases h),λ_=>⟨.inr rfl,λhg=>.inr ⟨by injection hg,rfl⟩⟩,θ⟩
 grind
section
variable{P:Program}{N:Nat}{d:Tmp}{tt:TypeId}{ps:String}{af:Array Edge}{gd:Option (Nat×Bool)}{x y:Operand}{sl sl1 sl2:Lab}{ob ob1:Laa}{nx:Nat}
theorem bsx{nx':Nat}{len:Nat}{parts:List (Nat×Operand)}{vs:List V}(h:NS P N ⟨ς d,.buildSlice t len parts.toArray,tt,ps,af,gd⟩ ⟨sl,ob,nx⟩ ⟨(d,.v (.c (.w nx len)))::sl,(nx,.row e sz els g ζ)::ob,nx'⟩ ⟨d,(parts.map (·.2)).zip (vs.map T.v),[],.v (.c (.w nx len)),[(nx,.row e sz els g ζ)]⟩)(hn:els.length=len):
 NX P N ⟨ς d,.buildSlice t len parts.toArray,tt,ps,af,gd⟩ ⟨sl,ob,nx⟩ ⟨(d,.v (.c (.d g (.l els))))::sl,(nx,.row e sz els g η)::ob,nx'⟩ ⟨⟨d,(parts.map (·.2)).zip (vs.map T.v),[],.v (.c (.d g (.l els))),[(nx,.row e sz els g η)]⟩,[],ξ⟩:=by
 obtain⟨h1,h2,h3,h4,h5,h6,h7⟩:=h
 exact⟨W0 hn (wW (GZ h1)),.inl ⟨rfl,h3⟩,h4,h5,h6,rfl⟩
end
section
variable{nw:Laa}{E:Env}{w:World}{G:Nat->Prop}{base:Nat}(hG:∀b,E.G b->G b)(hN:∀l y,go nw l=ς y->cN E w l y)(hb:∀l y b c,go nw l=ς y->E.r l=ς (b,c)->fR w b->G b)
include hG hN hb
end
def upC:C->C
 | .d η (.l xs)=>.d ζ (.l xs)
 |c=>c
def upCs:List C->List C
 |[]=>[]
 |c::cs=>upC c::upCs cs
def upV:V->V
 | .c c=>.c (upC c)
 | .agg cs=>.agg (upCs cs)
def upVs:List V->List V
 |[]=>[]
 |c::cs=>upV c::upVs cs
def upT:T->T
 | .v v=>.v (upV v)
 | .tup vs=>.tup (upVs vs)
 | .any=>.any
section
variable{E E':Env}{w:World}(hr:∀o p,E.r o=ς p->E'.r o=ς p)(hn:∀o,E'.n o↔E.n o)(hF:∀b,E.F b->E'.F b)(hG:∀b,E.G b->E'.G b)(hFG:∀b,E.F b->E'.G b)(hT:E'.T=E.T)(hZ:E'.Z=E.Z)
include hr hn hF hG hFG hT hZ
theorem aad{c:C}(h:cvC E w c u):cvC E' w (upC c) u:=by
 have kp:iG E w E' w\/True:=.inr trivial
 cases c with
 |d g x=>
  cases g with
  |s n=>exact(by show rdD w (E'.T n) x u;rw[hT];exact h:cvC E' w (.d (.s n) x) u)
  |t n=>exact(fw.keep h (λ_ _=>rfl) (λb hb=>by rw[hT];exact hb):cvC E' w (.d (.t n) x) u)
  |b g=>cases g with
   |false=>
    cases x with
    |l xs=>exact bQ (λ_ _=>rfl) hFG _ _ h
    |i k n=>exact bQ (λ_ _=>rfl) hF _ _ h
    |b n=>exact bQ (λ_ _=>rfl) hF _ _ h
    |str n=>exact bQ (λ_ _=>rfl) hF _ _ h
    |k A n c=>exact bQ (λ_ _=>rfl) hF _ _ h
   |true=>exact bQ (λ_ _=>rfl) hG _ _ h
 |w o n=>obtain⟨b,c,h1,h2⟩:=h;exact⟨b,c,hr _ _ h1,h2⟩
 |s o sz off len=>obtain⟨A,c,b,k,h1,h2⟩:=h;exact⟨A,c,b,k,hr _ _ h1,h2⟩
 |p o k=>obtain⟨b,c,h1,h2⟩:=h;exact⟨b,c,hr _ _ h1,h2⟩
 |e o sz i j=>obtain⟨b,c,h1,h2⟩:=h;exact⟨b,c,hr _ _ h1,h2⟩
 |q g y j=>
  obtain⟨b,k,h1,h2,h3⟩:=h
  have hHH:∀b,E.H g b->E'.H g b:=λb hb=>by
   cases g with
   |s n=>show E'.T n b;rw[hT];exact hb
   |t n=>show E'.T n b;rw[hT];exact hb
   |b g=>cases g with
    |false=>exact hF b hb
    |true=>exact hG b hb
  exact⟨b,k,h1,hHH b h2,rdL_mono (λ_ _=>rfl) hHH _ _ _ h2 h3⟩
 |fn f=>exact h
 |nil=>exact h
 |any=>trivial
 |r l x=>exact bQ (λ_ _=>rfl) (λb hb=>by simp_all) _ _ h
 |z x=>exact ug (λ_ _=>vX.refl _ _) (λb hb=>by simp_all) _ _ h
 |zq y j=>obtain⟨b,k,h1,h2,h3⟩:=h;exact⟨b,k,h1,by simp_all,rsL_mono (λ_ _=>vX.refl _ _) (λb hb=>by simp_all) _ _ _ h2 h3⟩
 |wn o n=>
  rcases h with⟨h1,h2⟩|⟨h1,b,c,h2,h3⟩
  .exact .inl ⟨(hn o).2 h1,h2⟩
  exact .inr ⟨λk=>h1 ((hn o).1 k),b,c,hr _ _ h2,h3⟩
theorem Uc:∀{cs:List C} {us:Lae},CV E w cs us->CV E' w (upCs cs) us
 |[],[],_=>trivial
 |c::cs,u::us,h=>⟨aad hr hn hF hG hFG hT hZ h.1,Uc h.2⟩
 |[],_::_,h=>h.elim
 |_::_,[],h=>h.elim
theorem aae{v:V}(h:cvV E w v u):cvV E' w (upV v) u:=by
 cases v with
 |c c=>exact aad hr hn hF hG hFG hT hZ h
 |agg cs=>obtain⟨arr,hu,h⟩:=h;exact⟨arr,hu,Uc hr hn hF hG hFG hT hZ h⟩
theorem Ud:∀{cs:List V} {us:Lae},VV E w cs us->VV E' w (upVs cs) us
 |[],[],_=>trivial
 |c::cs,u::us,h=>⟨aae hr hn hF hG hFG hT hZ h.1,Ud h.2⟩
 |[],_::_,h=>h.elim
 |_::_,[],h=>h.elim
theorem upT_ok{t:T}(h:cvT E w t u):cvT E' w (upT t) u:=by
 cases t with
 |v v=>exact aae hr hn hF hG hFG hT hZ h
 |tup vs=>obtain⟨arr,hu,h⟩:=h;exact⟨arr,hu,Ud hr hn hF hG hFG hT hZ h⟩
 |any=>trivial
end
def dnC:C->Option C
 | .d (.b ζ) (.l xs)=>ς (.d η (.l xs))
 | .d (.b g) (.i k n)=>ς (.d g (.i k n))
 | .d (.b g) (.b x)=>ς (.d g (.b x))
 | .d (.b g) (.str s)=>ς (.d g (.str s))
 | .nil=>ς .nil
 | .fn f=>ς (.fn f)
 |_=>ξ
theorem dnC_ok{E E':Env}(hG:∀b,E.G b->E'.F b){c c':C}(h:dnC c=ς c')(hc:cvC E w c u):cvC E' w c' u:=by
 cases c with
 |d g x=>
  cases g with
  |s n=>cases x<;>simp[dnC] at h
  |t n=>cases x<;>simp[dnC] at h
  |b g=>
   cases x with
   |l xs=>
    cases g with
    |false=>cases h
    |true=>cases h;exact bQ (λ_ _=>rfl) hG _ _ hc
   |i k n=>cases g<;>(cases h;simpa [cvC,gD,rdD] using hc)
   |b n=>cases g<;>(cases h;simpa [cvC,gD,rdD] using hc)
   |str n=>cases g<;>(cases h;simpa [cvC,gD,rdD] using hc)
   |k A n c=>cases g<;>cases h
 |nil=>cases h;exact hc
 |fn f=>cases h;exact hc
 |_=>simp[dnC] at h
theorem WI{f:C->Option C}{E E':Env}{w w':World}(hf:∀c c' u,f c=ς c'->cvC E w c u->cvC E' w' c' u):∀{ts ts':List T} {us:Lae},tU f ts=ς ts'->TV E w ts us->TV E' w' ts' us
 |[],ts',us,h,hv=>by
  simp[tU] at h;subst h
  cases us with
  |nil=>trivial
  |cons _ _=>exact hv.elim
 |t::ts,ts',us,h,hv=>by
  simp only[tU] at h
  split at h
  .rename_i h1 h2
   simp at h;subst h
   cases us with
   |nil=>exact hv.elim
   |cons u us=>exact⟨Df hf h1 hv.1,WI hf h2 hv.2⟩
  cases h
theorem FnV.up{f:FuncId}{args args':List T}{out out':T}{nw:Laa}(h:FnV P f [] args [] out nw)(ha:tU dnC args'=ς args)(ho:upT out=out'):FnV P f [] args' [] out' nw:=by
 subst ho
 refine⟨h.enters,λE w vals hI ht hs hx hA=>?_⟩
 obtain⟨E0,hE0⟩:∃E0:Env,E0={E with F:=E.G}:=⟨_,rfl⟩
 have e_r:E0.r=E.r:=by subst hE0;rfl
 have e_F:E0.F=E.G:=by subst hE0;rfl
 have e_G:E0.G=E.G:=by subst hE0;rfl
 have e_T:E0.T=E.T:=by subst hE0;rfl
 have e_Z:E0.Z=E.Z:=by subst hE0;rfl
 have hI0:VIn E0 w:=⟨λb hb=>hI.fb b (hI.gf b (by simp_all)),λb hb=>by simp_all,λo b c hr=>by
  rw[e_r] at hr
  obtain⟨k1,k2,k3⟩:=hI.rb o b c hr
  exact⟨k1,k2,by rw[e_F];exact λhg=>k3 (hI.gf b hg)⟩,by rw[e_r];exact hI.inj,λl b hb=>by
  rw[e_T] at hb
  obtain⟨k1,k2,k3,k4⟩:=hI.T l b hb
  exact⟨k1,by rw[e_F];exact λhg=>k2 (hI.gf b hg),by rw[e_r];exact k3,k4⟩,by rw[e_T];exact hI.tt,by rw[e_T];exact hI.ts,by rw[e_Z];exact hI.Z⟩
 refine(h.calls E0 w vals hI0 ht (by simp_all) (λl x hg=>by cases hg) (WI (λc c' u hc hv=>dnC_ok (λb hb=>by simp_all) hc hv) ha hA)).mono ?_
 rintro e w' ⟨v,E',he,vo,hv,_,hnw⟩
 have f0:∀b,E'.F b->E.G b\/((w.heap.size<=b\/∃l,E.T l b)/\fR w' b):=λb hb=>by have:=vo.f0 b hb;simp_all
 have hr0:∀o b c,E'.r o=ς (b,c)->b<w'.heap.size/\((w.heap.size<=b\/∃l,E.T l b)\/((∃o' c',E.r o'=ς (b,c'))/\rsv o=ζ)):=λo b c hr=>by have:=vo.rb o b c hr;simp_all
 refine⟨v,{E' with F:=λb=>E'.F b\/E.F b,G:=E'.F},he,⟨by have:=vo.past;simp_all,λb hb=>hb.elim (vo.fb b) (λhb=>aci (hI.fb b hb) vo.past.size),λb hb=>hb.elim (λhb=>(f0 b hb).imp (hI.gf b) id) .inl,λb hb=>.inr hb,λb hb=>vo.F b (by simp_all),λb hb=>.inl hb,λb hb=>(f0 b hb).elim (λk=>.inr (.inl k)) (λk=>k.1.imp id .inr),hr0,vo.inj,λo x ho hx'=>by have:=vo.pin o x ho hx';simp_all,λl b hb=>?_,vo.tt⟩,
  upT_ok (E:=E') (E':={E' with F:=λb=>E'.F b\/E.F b,G:=E'.F}) (λ_ _ h=>h) (λ_=>Iff.rfl) (λb hb=>.inl hb) (λb hb=>vo.gf b hb) (λb hb=>hb) rfl rfl hv,λl y hg=>(by cases hg),λl y hg=>?_⟩
 .obtain⟨⟨k1,k2⟩,k3,k4,k5⟩:=vo.T l b hb
  rw[e_T] at k2
  exact⟨⟨k1,k2⟩,λh=>h.elim k3 (λh=>k2.elim (λk=>aec.2 k (hI.fb b h)) (λ⟨l',k⟩=>(hI.T l' b k).2.1 h)),k4,k5⟩
 have hk:iG E' w' {E' with F:=λb=>E'.F b\/E.F b,G:=E'.F} w':=⟨λ_ _ h=>h,λg b hb=>by cases g;exact .inl hb;exact vo.gf b hb,λ_ _ _=>rfl,λ_ _ h=>⟨h,rfl⟩,λ_ h=>⟨h,.refl _ _⟩,rfl⟩
 refine fG hk (λ_ _ _=>rfl) (λb c hr hn hF=>hF.elim hn (λhb=>?_)) (hnw l y hg)
 rcases(hr0 l b c hr).2 with(k|⟨l',k⟩)|⟨⟨o',c',k⟩,_⟩
 .have:=hI.fb b hb;omega
 .exact(hI.T l' b k).2.1 hb
 exact(hI.rb o' b c' k).2.2 hb
section
variable{P:Program}{d:Tmp}{ty:TypeId}{ps:String}{af:Array Edge}{gd:Option (Nat×Bool)}{x y:Operand}
theorem J0{t:Nat}{g2:Bool}{o:Nat}{rt:TypeId}{hi:Operand}[ht:dz P t e sz by_](hn:els.length=n)(h0:0<=h)(h2:h<=n):
 AWN P ⟨ς d,.slice t x ξ (ς hi) ξ,ty,ps,af,gd⟩ [(x,.v (.c (.w o n))),(hi,.v (.c (.d g2 (.i .i64 h))))] [(o,.row rt sz els g m)] (.v (.c (.w o h.toNat))) []:=
 cA λE ac w hne hob=>by
  have k1:=hne x _ (.head _)
  have k3:=ic (hne hi _ (.tail _ (.head _)))
  obtain⟨b,c,hr,hu⟩:=k1
  obtain⟨b',c',arr,hr',_,_,hlc,_⟩:=hob o _ (.head _)
  rw[hr] at hr';cases hr'
  obtain⟨i,z,hi1,hi2,_⟩:=ht.i
  obtain⟨he,hu'⟩:=CG ht.u
  refine⟨sliced (ς ⟨b,0,ξ⟩) 0 h.toNat c sz,?_,?_⟩
  .simp[execOp,hu,k3,run_sliceAt_slice w t _ _ _ _ hu',run_slice_h w t (ς ⟨b,0,ξ⟩) n c hu' .i64 h h0 oaa,he,ey hi1,hi2]
  exact⟨b,c,hr,by simp[sliced,vy]⟩
theorem LZ{o:Nat}{ys:Lad}{c:C}[ht:dz P t e sz by_](hrv:rsv o=η)(ho:go nob o=ς (.row e sz els g ζ))(hs:Src nob c ys gy)(hn:n<=els.length)(hsz:∀e∈ys,e.length=sz)(hb:(n+ys.length)*by_<=140737488355328)(h63:n+ys.length<=9223372036854775807):
 AWK P ⟨ς d,.call ⟨.builtin .append,#[x,y],#[t,t]⟩,ty,ps,af,gd⟩ [(x,.v (.c (.w o n))),(y,.v (.c c))] nob (.v (.c (.w q (n+ys.length)))) [(q,.row e sz (els.take n++ys) (g&&gy) ζ)] [] (ς o):=by
 intro cx E a w ok hne hnob hfr
 have hob:∀l x,go nob l=ς x->cN E w l x:=λl x h=>hnob l x (BL h)
 obtain⟨hq1,hq2⟩:=hfr q _ (.head _)
 have h1:cvT E w (.v (.c (.w o n))) (a.eval x):=hne x _ (.head _)
 have h2:cvT E w (.v (.c c)) (a.eval y):=hne y _ (.tail _ (.head _))
 obtain⟨b,cc,hr,hu⟩:=h1
 obtain⟨b',c',arr,hr',hh,ha,hlc,hmx,hes,hrd,hFm,_⟩:=hob o _ ho
 rw[hr] at hr';cases hr'
 have hF:=hFm rfl
 have hesT:∀e'∈els.take n,e'.length=sz:=λe' he'=>hes e' (adk he')
 have hrdT:=oc n hrd
 have hnT:(els.take n).length=n:=by simp;omega
 have hoq:o≠q:=λe=>by simp_all
 obtain⟨A,k,hv,hyk,hA⟩:=GO hob hs h2
 obtain⟨ii,zz,i1,i2,i3,i4,i5⟩:=ht.i
 have hbl:=(ok.rb o b cc hr)
 have hown:w.ownsRow 0 e sz (.slice (ς ⟨b,0,ξ⟩) n cc) n (arr.toList.take (n*sz)):=
  ⟨by simp[ha];grind,.inr ⟨b,cc,arr,rfl,abm _,hh,by omega,hmx,ha,rfl⟩⟩
 have hsrc:∃news:Lae,news.length=ys.length*sz/\(∀u∈news,u.oneCell'=ζ)/\(∀(j:Nat) (xd:D),ys.flatten[j]?=ς xd->∃u,news[j]?=ς u/\rdD w (E.H gy) xd u)/\
  ∃v' w',(Builtin.append_ #[t,t] ty #[.slice (ς ⟨b,0,ξ⟩) n cc,.slice A ys.length k]).run P w= .ok v' w'/\w'.ownsRow 0 e sz v' (n+ys.length) (arr.toList.take (n*sz)++news)/\w.grownBy w' (ς b)/\v'≠.slice ξ 0 0/\(v'.ownBlock=ς b\/v'.ownBlock=ς w.heap.size):=by
  have hgood:∀ad,A=ς ad->∀news:Lae,news.length=ys.length*sz->(∀(j:Nat) (u:Value),news[j]?=ς u->w.cell? (ad.add j)=ς u)->(∀u∈news,u.oneCell'=ζ)->
   ∃v' w',(Builtin.append_ #[t,t] ty #[.slice (ς ⟨b,0,ξ⟩) n cc,.slice A ys.length k]).run P w= .ok v' w'/\w'.ownsRow 0 e sz v' (n+ys.length) (arr.toList.take (n*sz)++news)/\w.grownBy w' (ς b)/\v'≠.slice ξ 0 0/\(v'.ownBlock=ς b\/v'.ownBlock=ς w.heap.size):=by
   intro ad hAd news n1 n2 n3
   obtain⟨v',w',r1,r2,r3,r4,r5⟩:=run_append_own_at (P:=P) w 0 t ty e ii zz sz by_ ht.u i1 i4 i2 i3 i5 ht.p _ n _ hown ad ys.length k news n1 n2 n3 (by unfold maxLen;omega) hb (abm _)
   exact⟨v',w',by simp_all,r2,r3,(λh=>by simp_all),r5⟩
  rcases hA with h0|⟨b2,off,rfl,hrd2⟩
  .subst h0
   refine⟨[],by simp,by simp,by simp,?_⟩
   cases A with
   |none=>exact⟨_,w,uh w ht.u i1 hown k,by simp_all,⟨rfl,rfl,rfl,abk _,λ_ _ _=>rfl⟩,by simp,.inl rfl⟩
   |some ad=>simp_all
  obtain⟨us,q1,q2,q3,q4⟩:=wy (eN.1 hrd2)
  exact⟨us,by rw[q1,eF hsz],q3,q4,hgood _ rfl us (by rw[q1,eF hsz]) q2 q3⟩
 obtain⟨news,n1,n2,n3,v',w',r1,r2,r3,r4,r5⟩:=hsrc
 obtain⟨_,r2⟩:=r2
 rcases r2 with⟨rfl,_⟩|⟨bn,cap,cur,rfl,_,hhn,hcap,hcapm,hcur,htk⟩
 .simp_all
 unfold Oper.wp
 simp only[execOp,resolve,invoke,builtin,Sem.run_bind,Sem.run_pure,Result.andThen_ok,ad8,adU,ad3,hu,hv,r1,Oper.upon_value]
 have hbn:bn=b\/bn=w.heap.size:=by simpa [Value.ownBlock] using r5
 have hsame:∀k,k<w.heap.size->k≠b->w'.heap[k]?=w.heap[k]?:=λk hk hne=>r3.block k hk (λe=>hne (by injection e))
 have hnF:¬E.F bn:=by
  rcases hbn with rfl|rfl
  .exact hF
  exact λh=>by have:=ok.fb _ h;omega
 have hbig:bn<w'.heap.size:=by
  rcases ac9 bn w'.heap.size with h|h
  .exact h
  simp_all
 have hnew:∀l bl cl,l≠o->E.r l=ς (bl,cl)->bl≠bn:=by
  intro l bl cl hne hl e
  subst e
  rcases hbn with h|h
  .subst h;exact hne (ok.inj l o _ _ _ hl hr)
  have:=(ok.rb l bl cl hl).1;omega
 have hHb:∀(g:Bool) k,E.H g k->k≠b/\k<w.heap.size:=λg k hk=>⟨λe=>by subst e;cases g;exact hF hk;exact hF (ok.gf _ hk),ok.hb hk⟩
 have kH:∀(g:Bool) (k:Nat),E.H g k->w'.heap[k]?=w.heap[k]?:=λg k hk=>hsame k (hHb g k hk).2 (hHb g k hk).1
 have kI:∀(g:Bool) (k:Nat),E.H g k->(E.mv o q bn cap).H g k:=λ_ _ h=>h
 have hbnew:cx.In b:=by
  rcases hbl.2 with h|h
  .exact h
  simp_all
 have hmv:∀l bl cl,(E.mv o q bn cap).r l=ς (bl,cl)->(l=q/\bl=bn/\cl=cap)\/(l≠q/\l≠o/\E.r l=ς (bl,cl)):=by
  intro l bl cl hl
  simp only[Env.mv] at hl
  split at hl
  .simp_all
  simp_all
 refine⟨_,E.mv o q bn cap,rfl,⟨λk hk=>aci (ok.fb k hk) r3.size,ok.gf,ok.gn,λl bl cl hl=>?_,λl l' bl cl cl' hl hl'=>?_,by rw[r3.os];exact ok.os,by rw[r3.tape];exact ok.tape,by rw[r3.output];exact ok.output,acR ok.size r3.size,λk hk hW=>?_,λl xx hv hl=>?_,ok.ff,λk hk hk'=>(ok.gc k hk hk').of_eq (hsame k (hHb η k hk).2 (hHb η k hk).1),ok.sf.turn hr rfl rfl (λ_ h=>.inl h) (λl bl cl hl=>?_) r3.size hsame⟩,
  ⟨λl xx hl hlr=>?_,λ_ h=>h,λ_ h=>h,λ_ h=>.inl h,λk hk _ hkl=>hsame k hk (λe=>hkl o cc rfl (e▸hr)),(λ_ _ _ _ h=>by cases h),λl bl cl hl hlr=>?_,λ_ _ h=>h,λ_ _ h=>.inl h,rfl,rfl⟩,⟨bn,cap,by simp[Env.mv],rfl⟩,λl ob hm=>?_,(λ_ _ h=>by cases h),λl xx hl=>?_⟩
 .rcases hmv l bl cl hl with⟨_,rfl,rfl⟩|⟨_,_,hl⟩
  .refine⟨hbig,.inl ?_⟩
   rcases hbn with h|h
   .rw[h];exact hbnew
   exact .inl (by have:=ok.size;omega)
  have:=ok.rb l bl cl hl;exact⟨aci this.1 r3.size,this.2⟩
 .rcases hmv l bl cl hl with⟨h1,h2,h3⟩|⟨h1,h2,h3⟩<;>rcases hmv l' bl cl' hl' with⟨k1,k2,k3⟩|⟨k1,k2,k3⟩
  .omega
  .grind
  .grind
  exact ok.inj l l' bl cl cl' h3 k3
 .rw[hsame k (by have:=ok.size;omega) (λe=>by subst e;exact hbnew.nw.elim (λ_=>by omega) hW)];exact ok.block k hk hW
 .obtain⟨bl,cl⟩:=xx
  rcases hmv l bl cl hl with⟨rfl,_⟩|⟨_,_,hl⟩
  .rw[xT hq2] at hv;cases hv
  exact ok.pin l _ hv hl
 .grind
 .simp only[Env.mv]
  grind
 .grind
 .simp at hm;obtain⟨rfl,rfl⟩:=hm
  have hall:∀e'∈els.take n++ys,e'.length=sz:=λe' he'=>by
   grind
  refine⟨bn,cap,cur,by simp[Env.mv],hhn,hcur,by simp;omega,hcapm,hall,?_,λ_=>hnF,(λh=>by cases h),θ⟩
  rw[eN]
  refine mG λj xd hj=>?_
  rw[aa5,dX hhn]
  rw[ad2] at hj
  have hfl:(els.take n).flatten.length=n*sz:=by rw[eF hesT,hnT]
  have hxs:(arr.toList.take (n*sz)).length=n*sz:=by simp[ha];rw[ad1 oaa]
  have hcurj:∀u,(arr.toList.take (n*sz)++news)[j]?=ς u->cur[j]?=ς u:=by
   intro u hu
   rw[<-htk,adj] at hu
   split at hu
   .simp_all
   cases hu
  by_cases hjn:j<n*sz
  .rw[aa8 oaa] at hj
   obtain⟨u,u1,u2⟩:=iz (eN.1 hrdT) hj
   rw[aa5,dX hh] at u1
   refine⟨u,hcurj u ?_,bQ (kH _) (kI _) _ _ (qX ok u2 (by simp_all))⟩
   grind
  rw[aa3 oaa,hfl] at hj
  obtain⟨u,u1,u2⟩:=n3 _ _ hj
  refine⟨u,hcurj u ?_,bQ (kH _) (kI _) _ _ (qX ok u2 (by simp))⟩
  rw[aa3 oaa,hxs]
  exact u1
 grind
end
section
variable{P:Program}{N:Nat}{d:Tmp}{ty:TypeId}{ps:String}{af:Array Edge}{gd:Option (Nat×Bool)}{x y:Operand}{sl:Lab}{ob:Laa}{nx:Nat}{α:Type}{enc:α->List D}
theorem cwfT{t:Nat}{g2:Bool}{o:Nat}{ys:List α}{rt:TypeId}{hi:Operand}[ht:dz P t e sz by_](H:d6 ys 0 h=ζ)(hn:ys.length=n)(hx:opT sl x= .v (.c (.w o n)))(ho:go ob o=ς (.row rt sz (ys.map enc) g m))(hh:opT sl hi= .v (.c (.d g2 (.i .i64 h))))(hN:nlt d N=ζ):
 NS0 P N ⟨ς d,.slice t x ξ (ς hi) ξ,ty,ps,af,gd⟩ sl ob nx d (.v (.c (.w o h.toNat))) ⟨d,[(x,.v (.c (.w o n))),(hi,.v (.c (.d g2 (.i .i64 h))))],[(o,.row rt sz (ys.map enc) g m)],.v (.c (.w o h.toNat)),[]⟩:=by
 simp only[d6,decide_eq_true_eq] at H
 exact dx (st:=⟨sl,ob,nx⟩) (J0 (by simp_all) H.2.1 oaa) rfl hN ⟨hx,hh,θ⟩ ⟨ho,θ⟩ rfl
theorem apxP{o nx':Nat}{ys zs:List α}{zd:Lad}{gg:Bool}{c:C}(ls:List Nat)[dz P t e sz by_](H0:d6 ys 0 h=ζ)(H:c8 by_ (ys.take h.toNat++zs).length=ζ)(hzd:zs.map enc=zd)(henc:∀a,(enc a).length=sz)(hp:t8 ob ls=ς nob)(hs:Src nob c zd gy)(hd:nlt d N=ζ)(hx:opT sl x= .v (.c (.w o h.toNat)))(hy:opT sl y= .v (.c c))(ho:go nob o=ς (.row e sz (ys.map enc) g ζ))(hg:(g&&gy)=gg)(hrv:rsv o=η)(hnx:nxt nx=ς nx'):
 NX P N ⟨ς d,.call ⟨.builtin .append,#[x,y],#[t,t]⟩,ty,ps,af,gd⟩ ⟨sl,ob,nx⟩ ⟨(d,.v (.c (.w nx (ys.take h.toNat++zs).length)))::sl,(nx,.row e sz ((ys.take h.toNat++zs).map enc) gg ζ)::ob,nx'⟩
  ⟨⟨d,[(x,.v (.c (.w o h.toNat))),(y,.v (.c c))],nob,.v (.c (.w nx (ys.take h.toNat++zs).length)),[(nx,.row e sz ((ys.take h.toNat++zs).map enc) gg ζ)]⟩,[],ς o⟩:=by
 subst hzd;subst hg
 simp only[d6,decide_eq_true_eq] at H0
 have hle:h.toNat<=ys.length:=by omega
 have hl:(ys.take h.toNat++zs).length=h.toNat+zs.length:=by simp;omega
 simp only[c8,decide_eq_true_eq,hl] at H
 have:=LZ (P:=P) (d:=d) (ty:=ty) (ps:=ps) (af:=af) (gd:=gd) (x:=x) (y:=y) (t:=t) (e:=e) (sz:=sz) (by_:=by_) (q:=nx) (n:=h.toNat) hrv ho hs (by simp_all) (JN henc zs) (by simp_all) (by simp_all)
 rw[<-aeb,<-adZ,adb,<-hl] at this
 exact⟨this,.inl ⟨rfl,bV hd⟩,⟨hx,hy,θ⟩,wr hp,rL hnx,rfl⟩
theorem apxPF{o nx':Nat}{ys zs:List α}{zd:Lad}{c:C}(ls:List Nat)[dz P t e sz by_](H0:d6 ys 0 h=ζ)(H:c8 by_ (ys.take h.toNat++zs).length=ζ)(hzd:zs.map enc=zd)(henc:∀a,(enc a).length=sz)(hfl:∀a,uK (enc a)=ζ)(hp:t8 ob ls=ς nob)(hs:Src nob c zd gy)(hd:nlt d N=ζ)(hx:opT sl x= .v (.c (.w o h.toNat)))(hy:opT sl y= .v (.c c))(ho:go nob o=ς (.row e sz (ys.map enc) g ζ))(hrv:rsv o=η)(hnx:nxt nx=ς nx'):
 NX P N ⟨ς d,.call ⟨.builtin .append,#[x,y],#[t,t]⟩,ty,ps,af,gd⟩ ⟨sl,ob,nx⟩ ⟨(d,.v (.c (.w nx (ys.take h.toNat++zs).length)))::sl,(nx,.row e sz ((ys.take h.toNat++zs).map enc) ζ ζ)::ob,nx'⟩
  ⟨⟨d,[(x,.v (.c (.w o h.toNat))),(y,.v (.c c))],nob,.v (.c (.w nx (ys.take h.toNat++zs).length)),[(nx,.row e sz ((ys.take h.toNat++zs).map enc) ζ ζ)]⟩,[],ς o⟩:=by
 obtain⟨h1,h2,h3,h4,h5,h6⟩:=apxP (P:=P) (N:=N) (t:=t) (x:=x) (y:=y) (enc:=enc) (d:=d) (ty:=ty) (ps:=ps) (af:=af) (gd:=gd) (sl:=sl) (ob:=ob) (nx:=nx) ls H0 H hzd henc hp hs hd hx hy ho rfl hrv hnx
 refine⟨?_,h2,h3,h4,rL hnx,rfl⟩
 intro cx E a w ok hne hnob hfr
 refine Oper.wp_mono ?_ (h1 cx E a w ok hne hnob (λl x hm=>by simp_all))
 rintro a' w' ⟨v,E',k1,k2,k3,k4,k5,k6,k7⟩
 refine⟨v,E',k1,k2,k3,k4,λl x hm=>?_,k6,λl x hl=>(k7 l x hl).imp id (λ⟨x',hm⟩=>by simp_all)⟩
 simp at hm;obtain⟨rfl,rfl⟩:=hm
 obtain⟨b,c,arr,j1,j2,j3,j4,j5,j6,j7,j8,j9⟩:=k5 _ _ (.head _)
 refine⟨b,c,arr,j1,j2,j3,by simp_all,j5,by simp_all,?_,j8,(λh=>by cases h),θ⟩
 have:rdLL w' (E'.H ζ) ((ys.take h.toNat++zs).map enc) b 0:=Az (λe he=>by grind) j7
 simp_all
end
def nmO(d:Nat):Operand->Bool
 | .tmp t=>!fW t d
 |_=>ζ
def Vn(d:Nat):Op->Bool
 | .move x| .assign x| .nilCheck x| .fieldAddr _ x _| .field _ x _| .load _ x| .unOp _ _ x| .convert _ _ x| .extract x _=>nmO d x
 | .store _ x y| .indexAddr _ x y| .index _ x y| .binOp _ _ x y _=>nmO d x&&nmO d y
 | .buildSlice _ _ ps| .build _ ps=>ps.toList.all λp=>nmO d p.2
 | .call c=>(match c.callee with| .value x=>nmO d x| .builtin _=>ζ|_=>η)&&c.args.toList.all (nmO d)
 |_=>η
theorem map_nm{d:Nat}{ρ ρ':Operand->Value}(hρ:∀x,nmO d x=ζ->ρ x=ρ' x){l:Array Operand}(h:l.toList.all (nmO d)=ζ):l.map ρ=l.map ρ':=by
 grind
theorem ab2{d:Nat}{ρ ρ':Operand->Value}(hρ:∀x,nmO d x=ζ->ρ x=ρ' x){l:Array (α×Operand)}(h:(l.toList.all λp=>nmO d p.2)=ζ):(l.map λ(i,x)=>(i,ρ x))=(l.map λ(i,x)=>(i,ρ' x)):=by
 grind
theorem acl{d:Nat}{o:Oper}{ρ ρ':Operand->Value}(h:Vn d o.op=ζ)(hρ:∀x,nmO d x=ζ->ρ x=ρ' x):execOp ρ o=execOp ρ' o:=by
 unfold execOp
 cases e:o.op with
 |move x|assign x|nilCheck x|fieldAddr _ x _|field _ x _|load _ x|unOp _ _ x|convert _ _ x|extract x _=>
  rw[e] at h;simp only[hρ x h]
 |store _ x y|indexAddr _ x y|index _ x y|binOp _ _ x y _=>
  rw[e] at h;simp only[Vn,f4] at h;simp_all
 |buildSlice _ _ ps|build _ ps=>rw[e] at h;simp only[ab2 hρ h]
 |call c=>
  rw[e] at h
  simp only[Vn,f4] at h
  have h2:=map_nm hρ h.2
  have:resolve ρ c o.type=resolve ρ' c o.type:=by
   unfold resolve
   rw[h2]
   cases e2:c.callee with
   |value x=>simp_all
   |builtin b=>rfl
   |invoke r n=>simp_all
  simp_all
 |_=>first|rfl|(rw[e] at h;cases h)
section
variable{P:Program}{ops:Array Oper}{Q:Exit->Act->World->Prop}
theorem ww(a:Act)(o:Option Nat)(d:Nat)(u v:Value)(h:o≠ς d):(a.put (ς d) v).put o u=(a.put o u).put (ς d) v:=by
 cases o with
 |none=>rfl
 |some k=>
  have hk:k≠d:=λe=>h (by rw[e])
  simp only[Act.put]
  congr 1
  exact aeF _ _ (Ne.symm hk)
theorem XB{d:Nat}{v:Value}{x:Operand}(h:nmO d x=ζ):(a.put (ς d) v).eval x=a.eval x:=by
 cases x with
 |tmp t=>
  have ht:t≠d:=λe=>by subst e;simp[nmO] at h
  show(a.tmps.setIfInBounds d v).getD t undef=a.tmps.getD t undef
  rw[aer,aer,aeB (Ne.symm ht)]
 |_=>rfl
theorem aav{o:Oper}{d s:Nat}{v:Value}{K K':Act->World->Prop}(hQ:∀e a w,Q e a w->e= .normal)(h:Vn d o.op=ζ)(hd:o.dst≠ς d)(hs:o.dst≠ς s)(hK:∀a' w',a'.tmps.getD s undef=a.tmps.getD s undef->K (a'.put (ς d) v) w'->K' a' w')(hh:o.wp P (a.put (ς d) v) w K Q):o.wp P a w K' Q:=by
 have hput:∀(a0:Act) (u:Value),a0.tmps=a.tmps->(a0.put o.dst u).tmps.getD s undef=a.tmps.getD s undef:=λa0 u h0=>by
  rw[<-h0]
  cases e:o.dst with
  |none=>rfl
  |some k=>
   have hk:k≠s:=λe'=>hs (by rw[e,e'])
   show(a0.tmps.setIfInBounds k u).getD s undef=a0.tmps.getD s undef
   simp_all
 unfold Oper.wp at*
 rw[acl h (ρ':=a.eval) (λx hx=>XB hx)] at hh
 generalize hr:(execOp a.eval o).run P w=r at*
 cases r with
 |ok n w'=>
  cases n with
  |value u=>exact hK _ w' (hput a u rfl) (by rw[<-ww a o.dst d u v hd];exact hh)
  |skip=>exact hK _ w' (hput a undef rfl) (by rw[<-ww a o.dst d undef v hd];exact hh)
  |defer x=>exact hK _ w' (hput {a with defers:=x::a.defers} undef rfl) (by rw[<-ww _ o.dst d undef v hd];exact hh)
  |enter f args=>
   refine Calls.mono hh (λe w'' he=>?_)
   cases e with
   |returned u=>exact hK _ w'' (hput a u rfl) (by rw[<-ww a o.dst d u v hd];exact he)
   |panicked c=>grind
   |outgrown=>exact he
  |row r args=>exact Rows.mono hh (λu w'' he=>hK _ w'' (hput a u rfl) (by rw[<-ww a o.dst d u v hd];exact he))
  |_=>exact hh.elim
 |halt x w'=>
  cases x with
  |panic u=>have:=hQ _ _ _ hh;cases this
  |_=>exact hh.elim
def Ll(ops:Array Oper)(i0 d s:Nat):Prop:=∀j o,ops[j]?=ς o->j≠i0->(∃e∈o.after,Region.binds .any e=ζ/\e.on=i0)\/(Vn d o.op=ζ/\o.dst≠ς d/\o.dst≠ς s/\∀q b,o.guard=ς (q,b)->(ops[q]?).bind (·.dst)≠ς d)
theorem RQ{o:Oper}{d:Nat}{v:Value}(hg:∀q b,o.guard=ς (q,b)->(ops[q]?).bind (·.dst)≠ς d):Region.wanted o (yielded ops (a.put (ς d) v).tmps)=Region.wanted o (yielded ops a.tmps):=by
 unfold Region.wanted
 cases e:o.guard with
 |none=>rfl
 |some qb=>
  obtain⟨q,b⟩:=qb
  have:=hg q b e
  have hy:yielded ops (a.put (ς d) v).tmps q=yielded ops a.tmps q:=by
   unfold yielded
   cases e2:(ops[q]?).bind (·.dst) with
   |none=>rfl
   |some k=>
    have hk:d≠k:=λe'=>this (by rw[e2,e'])
    show(match(a.tmps.setIfInBounds d v)[k]? with|some (.bool b)=>ς b|_=>ξ)=_
    grind
  simp_all
theorem Hh{i0 d s:Nat}{o0:Oper}{listed:Array Bool}(hQ:∀e a w,Q e a w->e= .normal)(ho:ops[i0]?=ς o0)(hop:o0.op= .move (.tmp s))(hod:o0.dst=ς d)(hog:o0.guard=ξ)(hoa:o0.after= #[])(hE:Ll ops i0 d s)(hlt:i0<ops.size)(hsz:listed.size=ops.size)(hun:listed.getD i0 η=η)(hh:wpAny P .any ops Q n (listed.setIfInBounds i0 ζ) (a.put (ς d) (a.tmps.getD s undef)) w)(h:∀i,(i∈Region.ready .any ops listed/\i≠i0/\i∈Region.ready .any ops (listed.setIfInBounds i0 ζ))->wpOp P ops Q i (wpAny P .any ops Q n (listed.setIfInBounds i ζ)) a w):wpAny P .any ops Q (n+1) listed a w:=by
 have hr0:i0∈Region.ready .any ops listed:=by
  rw[mem_ready]
  refine⟨?_,o0,ho,λe he=>by simp_all⟩
  rw[aer,Array.getElem?_eq_getElem oaa] at hun ⊢
  simpa using hun
 refine⟨λh0=>(by simp_all),λi hi=>?_⟩
 by_cases hne:i=i0
 .subst hne
  unfold wpOp
  simp only[ho]
  rw[if_pos (by simp[Region.wanted,hog])]
  refine .inl ?_
  unfold Oper.wp execOp
  rw[hop]
  show wpAny P .any ops Q n _ (a.put o0.dst (a.tmps.getD s undef)) w
  simp_all
 refine h i ⟨hi,hne,?_⟩
 obtain⟨h1,h2,o,h3,h4⟩:=mS hsz hi
 rw[mem_ready]
 refine⟨?_,o,h3,λe he hb=>?_⟩
 .have:(listed.setIfInBounds i0 ζ).getD i η=false:=by rw[cE oaa,if_neg (Ne.symm hne)];exact h2
  simp_all
 rw[cE oaa]
 simp_all
theorem PU{i0 d s:Nat}{o0:Oper}(hQ:∀e a w,Q e a w->e= .normal)(ho:ops[i0]?=ς o0)(hop:o0.op= .move (.tmp s))(hod:o0.dst=ς d)(hog:o0.guard=ξ)(hoa:o0.after= #[])(hsd:s≠d)(hE:Ll ops i0 d s):
 ∀(n:Nat) (listed:Array Bool) (a:Act) (w:World),listed.size=ops.size->listed.getD i0 η=η->wpAny P .any ops Q n (listed.setIfInBounds i0 ζ) (a.put (ς d) (a.tmps.getD s undef)) w->wpAny P .any ops Q (n+1) listed a w:=by
 have hlt:i0<ops.size:=by
  rcases ac9 i0 ops.size with h|h
  .exact h
  simp_all
 intro n
 induction n with
 |zero=>
  intro listed a w hsz hun hh
  refine Hh hQ ho hop hod hog hoa hE hlt hsz hun hh (λi hi=>?_)
  have hi2:=hi.2.2;rw[hh.1] at hi2;cases hi2
 |succ n ih=>
  intro listed a w hsz hun hh
  refine Hh hQ ho hop hod hog hoa hE hlt hsz hun hh (λi hi=>?_)
  obtain⟨h1,h2,o,h3,h4⟩:=mS hsz hi.1
  have hne:=hi.2.1
  have hR:=hi.2.2
  have h5:=hh.2 i hR
  rcases hE i o h3 hne with⟨e,he,hb,hon⟩|⟨k1,k2,k3,k4⟩
  .grind
  have hs2:(listed.setIfInBounds i ζ).size=ops.size:=by simpa using hsz
  have hun2:(listed.setIfInBounds i ζ).getD i0 η=false:=by rw[cE oaa,if_neg hne];exact hun
  have key:∀a' w',a'.tmps.getD s undef=a.tmps.getD s undef->wpAny P .any ops Q n ((listed.setIfInBounds i0 ζ).setIfInBounds i ζ) (a'.put (ς d) (a.tmps.getD s undef)) w'->wpAny P .any ops Q (n+1) (listed.setIfInBounds i ζ) a' w':=λa' w' hs' hk=>by
   refine ih _ a' w' hs2 hun2 ?_
   rw[hs',aeF _ _ hne];exact hk
  unfold wpOp at h5 ⊢
  simp only[h3] at h5 ⊢
  rw[RQ k4] at h5
  split
  .rename_i hw
   rw[if_pos hw] at h5
   rcases h5 with h5|⟨_,a'',w'',h5⟩
   .exact .inl (aav hQ k1 k2 k3 key h5)
   grind
  rename_i hw
  rw[if_neg hw] at h5
  rw[ww a o.dst d undef _ k2] at h5
  refine key _ w ?_ h5
  cases e:o.dst with
  |none=>rfl
  |some k=>
   have hk:k≠s:=λe'=>k3 (by rw[e,e'])
   show(a.tmps.setIfInBounds k undef).getD s undef=a.tmps.getD s undef
   rw[aer,aer,aeB hk]
theorem PX{Q':Exit->Act->World->Prop}(hQ:∀e a w,Q e a w->Q' e a w):∀(n:Nat) (listed:Array Bool) (a:Act) (w:World),wpAny P .any ops Q n listed a w->wpAny P .any ops Q' n listed a w:=by
 intro n
 induction n with
 |zero=>exact λ_ _ _ h=>⟨h.1,hQ _ _ _ h.2⟩
 |succ n ih=>
  intro listed a w h
  refine⟨λh0=>hQ _ _ _ (h.1 h0),λi hi=>?_⟩
  have h2:=h.2 i hi
  unfold wpOp at h2 ⊢
  split
  .simp_all
  rename_i o e
  simp only[e] at h2
  split
  .rename_i hw
   rw[if_pos hw] at h2
   rcases h2 with h2|⟨h2,a',w',h3⟩
   .exact .inl (ux hQ (Oper.wp_mono (λa w=>ih _ a w) h2))
   exact .inr ⟨h2,a',w',hQ _ _ _ h3⟩
  simp_all
end
def Qo(ops:Array Oper)(i0 d s:Nat):Bool:=
 (match ops[i0]? with
  |some ⟨ς d',.move (.tmp s'),_,_,af,ξ⟩=>fW d' d&&fW s' s&&af.toList.isEmpty
  |_=>η)&&!fW s d&&(f6 ops.size).all λj=>fW j i0||(match ops[j]? with
   |some o=>(o.after.toList.any λe=>Region.binds .any e&&fW e.on i0)||(Vn d o.op&&(match o.dst with|some k=>!fW k d&&!fW k s|none=>ζ)&&
    (match o.guard with|some (q,_)=>(match(ops[q]?).bind (·.dst) with|some k=>!fW k d|none=>ζ)|none=>ζ))
   |none=>η)
theorem acj{a b:Nat}(h:(!fW a b)=ζ):a≠b:=λe=>by simp_all
theorem UA{ops:Array Oper}{i0 d s:Nat}(h:Qo ops i0 d s=ζ):(∃o0,ops[i0]?=ς o0/\o0.op= .move (.tmp s)/\o0.dst=ς d/\o0.guard=ξ/\o0.after= #[])/\s≠d/\Ll ops i0 d s:=by
 simp only[Qo,f4] at h
 obtain⟨⟨h1,h2⟩,h3⟩:=h
 refine⟨?_,acj h2,λj o hj hne=>?_⟩
 .split at h1
  .simp_all
  cases h1
 have hlt:j<ops.size:=by
  rcases ac9 j ops.size with h|h
  .exact h
  simp_all
 have k:=aa4.1 h3 j (by simp_all)
 simp only[hj,adf,f4] at k
 rcases k with k|k|⟨⟨k1,k2⟩,k3⟩
 .simp_all
 .obtain⟨e,he,hb⟩:=adi.1 k
  simp only[f4] at hb
  exact .inl ⟨e,by simp_all,hb.1,aat hb.2⟩
 refine .inr ⟨k1,λe=>?_,λe=>?_,λq b hg e=>?_⟩
 .simp_all
 .simp_all
 simp_all
theorem R8{id:Nat}{l:List Oper}{ob:Laa}{AQ:Exit->St->Prop}(i0 d s:Nat)(is:List Nat){r:List (Nat×Oper)}{t:T}(hm:P.follows .mixedOrders=ζ)(he:Gm l.toArray=ζ)(hc:Ql l.length (i0::is)=ζ)(ho:Is l is=ς r)(hE:Qo l.toArray i0 d s=ζ)(hd:nlt d N=ζ)(ht:gt sl s=t)(h:DZ P N l.toArray r [i0] [] [] ⟨(d,t)::sl,ob,nx⟩ ⟨(d,t)::sl,ob,nx⟩ (λs=>AQ .normal s)):AWC P N (.region id l.toArray ζ) ⟨sl,ob,nx⟩ AQ:=by
 subst ht
 intro cx E a w hR
 refine wp_region_any hm ?_
 have hR':=Dz hR
 obtain⟨⟨o0,e1,e2,e3,e4,e5⟩,hsd,hE⟩:=UA hE
 have hlt:i0<l.toArray.size:=by
  rcases ac9 i0 l.toArray.size with h|h
  .exact h
  simp_all
 have hdN:d<N:=bV hd
 have hedge:∀i o,l.toArray[i]?=ς o->∀e∈o.after,Region.binds .any e=ζ->e.on<i:=by
  intro i o ho e hm hb
  have hi:i<l.toArray.size:=by
   rcases ac9 i l.toArray.size with h|h
   .exact h
   simp_all
  have:=aa4.1 he i (by simp_all)
  simp only[ho] at this
  have:=aa4.1 this e (by simp_all)
  simp only[hb,ad7,adD] at this
  exact bV this
 have hfull:unl l.toArray (abw l.toArray.size η)=l.toArray.size:=by
  unfold unl
  rw[aev.2]
  .simp
  simp_all
 have hst:=uw (ops:=l.toArray) (listed:=abw l.toArray.size η) (i:=i0) (by simp) hlt (iS _ _)
 rw[hfull] at hst
 have hcl:yO l.toArray ((abw l.toArray.size η).setIfInBounds i0 ζ):=yT (by simp) hlt e1 (λe he=>by grind) (λi o ho hd=>by rw[iS] at hd;cases hd)
 have hR2:Rel N cx E ⟨(d,gt sl s)::sl,ob,nx⟩ (a.put (ς d) (a.tmps.getD s undef)) {w with drawn:=w.drawn+1}:=by
  refine⟨hR'.ok,hR'.dom,hR'.obs,λk=>?_,hR'.dfr,by simpa [Act.put] using hR'.size,hR'.td⟩
  rw[ef (by rw[hR'.size];exact hdN)]
  by_cases hk:d=k
  .subst hk;rw[da,if_pos rfl];exact hR'.sl s
  rw[ck _ _ hk,if_neg hk];exact hR'.sl k
 have key:=Xu (P:=P) (cx:=cx) (Q:=λe a w=>e= .normal/\H4 N cx AQ .normal a w) (Xw hedge) (λE st a w hR hK=>⟨rfl,E,st,hR,hK⟩) h rfl (λq hq=>by have:=(t7 ho).1 q hq;grind) (λj hj=>by
  have hj':j<l.length:=by simpa using hj
  have:=aa4.1 hc j (by grind)
  rcases aa2.1 (gm.1 this) with e|e
  .grind
  exact .inr (.inr ((t7 ho).2 j e))) (λi o y _ hy=>by simp at hy) (λk=>rfl) rfl rfl ((abw l.toArray.size η).setIfInBounds i0 ζ) _ _ E (by simp) hcl (λj=>by
  rw[cE (by grind)]
  split
  .rename_i e;subst e;simp[jg]
  rename_i e;rw[iS];symm;rw[Bool.eq_false_iff];intro h;have:=gm.1 h;grind) hR2
 have k2:=PU (λe a w h=>h.1) e1 e2 e3 e4 e5 hsd hE _ (abw l.toArray.size η) a {w with drawn:=w.drawn+1} (by simp) (iS _ _) key
 rw[<-hst] at k2
 exact PX (λe a w h=>by grind) _ _ _ _ k2
section
variable{P:Program}{N:Nat}{d:Tmp}{x y:Operand}{ty:TypeId}{ps:String}{af:Array Edge}{gd:Option (Nat×Bool)}{sl:Lab}{ob:Laa}{nx:Nat}
end
def ro(ops:Array Oper):Array Bool->List Nat->Prop
 |listed,[]=>Region.ready .any ops listed=[]
 |listed,i::L=>i∈Region.ready .any ops listed/\ro ops (listed.setIfInBounds i ζ) L
section
variable{P:Program}{ops:Array Oper}{Q:Exit->Act->World->Prop}
theorem UV:∀(fuel t:Nat) (listed:Array Bool),listed.size=ops.size->unl ops listed<=fuel->ro ops listed (Region.linearise.go .any ops fuel t listed []):=by
 intro fuel
 induction fuel with
 |zero=>
  intro t listed hsz hu
  simp only[Region.linearise.go,List.reverse_nil,ro]
  rw[aet]
  intro i hi
  obtain⟨h1,h2,_⟩:=mS hsz hi
  have:=uw hsz h1 h2
  omega
 |succ fuel ih=>
  intro t listed hsz hu
  simp only[Region.linearise.go]
  change ro ops listed (match(Region.ready .any ops listed)[t%(Region.ready .any ops listed).length]? with
   |some i=>Region.linearise.go .any ops fuel (t/(Region.ready .any ops listed).length) (listed.setIfInBounds i ζ) [i]
   |none=>[].reverse)
  cases hi:(Region.ready .any ops listed)[t%(Region.ready .any ops listed).length]? with
  |none=>
   have hnil:Region.ready .any ops listed=[]:=by
    cases hr:Region.ready .any ops listed with
    |nil=>rfl
    |cons x xs=>
     rw[hr] at hi
     have hlt:t%(x::xs).length<(x::xs).length:=aeM _ (by simp)
     grind
   exact hnil
  |some i=>
   simp only[]
   rw[linearise_go_acc,List.reverse_singleton,List.singleton_append]
   have hm:=v0 hi
   obtain⟨h1,h2,_⟩:=mS hsz hm
   have:=uw hsz h1 h2
   exact⟨hm,ih _ _ (by simp_all) oaa⟩
theorem La:∀(L:List Nat) (listed:Array Bool),listed.size=ops.size->ro ops listed L->L.length<=unl ops listed
 |[],_,_,_=>abm _
 |i::L,listed,hsz,h=>by
  obtain⟨h1,h2,_⟩:=mS hsz h.1
  have:=uw hsz h1 h2
  have h3:=La L _ (by simp_all) h.2
  simp_all
theorem Lb:∀(L:List Nat) (n:Nat) (listed:Array Bool) (a:Act) (w:World),ro ops listed L->L.length<=n->wpAny P .any ops Q n listed a w->wpOps P ops Q L a w
 |[],0,_,_,_,_,_,h=>h.2
 |[],n+1,_,_,_,hv,_,h=>h.1 hv
 |i::L,0,_,_,_,_,hl,_=>by simp at hl
 |i::L,n+1,listed,a,w,hv,hl,h=>by
  rw[wpOps_cons]
  exact wpOp_mono (λa w h=>Lb L n _ a w hv.2 (by simp_all) h) (h.2 i hv.1)
end
def mz:List Oper->Nat->Nat->List Oper
 |[],_,_=>[]
 |⟨d,op,ty,ps,af,gd⟩::r,0,q=>⟨d,op,ty,ps,af.push ⟨q,.data⟩,gd⟩::r
 |o::r,p+1,q=>o::mz r p q
theorem wQ:∀{l:List Oper} {p q i:Nat},i≠p->(mz l p q)[i]?=l[i]?
 |[],_,_,_,_=>rfl
 |o::r,0,q,0,h=>absurd rfl h
 |⟨d,op,ty,ps,af,gd⟩::r,0,q,i+1,_=>by simp[mz]
 |o::r,p+1,q,0,_=>by simp[mz]
 |o::r,p+1,q,i+1,h=>by simp only[mz,aeG];exact wQ (λe=>h (by rw[e]))
theorem At:∀{l:List Oper} {p q:Nat},(mz l p q)[p]?=(l[p]?).map λo=>{o with after:=o.after.push ⟨q,.data⟩}
 |[],_,_=>rfl
 |⟨d,op,ty,ps,af,gd⟩::r,0,q=>by simp[mz]
 |o::r,p+1,q=>by simp only[mz,aeG];exact At
theorem GW:∀{l:List Oper} {p q:Nat},(mz l p q).length=l.length
 |[],_,_=>rfl
 |⟨d,op,ty,ps,af,gd⟩::r,0,q=>by simp[mz]
 |o::r,p+1,q=>by simp[mz,GW]
theorem nM{l:List Oper}{p:Nat}{listed:Array Bool} :i∈Region.ready .any (mz l p q).toArray listed↔i∈Region.ready .any l.toArray listed/\(i=p->listed.getD q η=ζ):=by
 rw[mem_ready,mem_ready]
 simp only[aes]
 by_cases h:i=p
 .subst h
  rw[At]
  constructor
  .rintro⟨h1,o,ho,hd⟩
   rw[Option.map_eq_some_iff] at ho
   obtain⟨o',ho',rfl⟩:=ho
   exact⟨⟨h1,o',ho',λe he hb=>hd e (by simp[he]) hb⟩,λ_=>hd ⟨q,.data⟩ (by simp) rfl⟩
  grind
 rw[wQ h]
 simp_all
theorem Jm{l:List Oper}{p q:Nat}:∀(L:List Nat) (listed:Array Bool),listed.size=l.toArray.size->listed.getD q η=ζ->ro l.toArray listed L->ro (mz l p q).toArray listed L
 |[],listed,_,hq,h=>by
  show Region.ready .any (mz l p q).toArray listed=[]
  rw[aet]
  intro i hi
  have:=(nM.1 hi).1
  have h':Region.ready .any l.toArray listed=[]:=h
  simp_all
 |i::L,listed,hsz,hq,h=>by
  refine⟨nM.2 ⟨h.1,λ_=>hq⟩,Jm L _ (by simp_all) ?_ h.2⟩
  obtain⟨h1,_⟩:=mS hsz h.1
  rw[cE oaa]
  simp_all
theorem FA{l:List Oper}{p q:Nat}(hpq:p≠q):∀(L:List Nat) (listed:Array Bool),listed.size=l.toArray.size->listed.getD p η=η->listed.getD q η=η->ro l.toArray listed L->ro (mz l p q).toArray listed L\/ro (mz l q p).toArray listed L
 |[],listed,_,_,_,h=>by
  left
  show Region.ready .any (mz l p q).toArray listed=[]
  rw[aet]
  intro i hi
  have:=(nM.1 hi).1
  have h':Region.ready .any l.toArray listed=[]:=h
  simp_all
 |i::L,listed,hsz,hp,hq,h=>by
  have hs2:(listed.setIfInBounds i ζ).size=l.toArray.size:=by simpa using hsz
  obtain⟨h1,_⟩:=mS hsz h.1
  have hg:∀j,(listed.setIfInBounds i ζ).getD j η=if i=j then ζ else listed.getD j false:=λj=>cE oaa
  by_cases e1:i=q
  .left
   exact⟨nM.2 ⟨h.1,λe=>absurd (e.symm.trans e1) hpq⟩,Jm L _ hs2 (by simp_all) h.2⟩
  by_cases e2:i=p
  .right
   exact⟨nM.2 ⟨h.1,λe=>absurd e e1⟩,Jm L _ hs2 (by simp_all) h.2⟩
  rcases FA hpq L _ hs2 (by simp_all) (by simp_all) h.2 with k|k
  .exact .inl ⟨nM.2 ⟨h.1,λe=>absurd e e2⟩,k⟩
  exact .inr ⟨nM.2 ⟨h.1,λe=>absurd e e1⟩,k⟩
section
variable{P:Program}{Q:Exit->Act->World->Prop}
theorem M9{l:List Oper}{p:Nat}(ts:Array Value)(j:Nat):yielded (mz l p q).toArray ts j=yielded l.toArray ts j:=by
 unfold yielded
 have:(((mz l p q).toArray)[j]?).bind (·.dst)=((l.toArray)[j]?).bind (·.dst):=by
  simp only[aes]
  by_cases h:j=p
  .subst h;rw[At];grind
  rw[wQ h]
 rw[this]
theorem Cq{l:List Oper}{p q:Nat}:∀(L:List Nat) (a:Act) (w:World),wpOps P (mz l p q).toArray Q L a w->wpOps P l.toArray Q L a w
 |[],_,_,h=>h
 |i::L,a,w,h=>by
  rw[wpOps_cons] at h ⊢
  have h':=wpOp_mono (λa w=>Cq L a w) h
  unfold wpOp at h' ⊢
  have hy:yielded (mz l p q).toArray a.tmps=yielded l.toArray a.tmps:=funext (M9 a.tmps)
  rw[hy] at h'
  simp only[aes] at h' ⊢
  by_cases e:i=p
  .subst e
   rw[At] at h'
   cases e2:l[i]? with
   |none=>simp_all
   |some o=>rw[e2] at h';exact h'
  rw[wQ e] at h';exact h'
end
def rkO:List Nat->Nat->Nat
 |[],_=>0
 |i::is,k=>bif fW i k then 0 else rkO is k+1
def LD(ops:Array Oper)(is:List Nat):Bool:=
 (f6 ops.size).all λi=>match ops[i]? with
  |some o=>o.after.toList.all λe=>!Region.binds .any e||(nlt e.on ops.size&&nlt (rkO is e.on) (rkO is i))
  |none=>η
theorem UB{ops:Array Oper}{is:List Nat}(h:LD ops is=ζ):Edg ops (rkO is):=by
 intro i o ho e he hb
 have hi:i<ops.size:=by
  rcases ac9 i ops.size with h|h
  .exact h
  simp_all
 have:=aa4.1 h i (by simp_all)
 simp only[ho] at this
 have:=aa4.1 this e (by simp_all)
 simp only[hb,ad7,adD,f4] at this
 exact⟨bV this.1,bV this.2⟩
def AWA(P:Program)(N:Nat)(l:List Oper)(st:St)(K:St->Prop):Prop:=
 ∀cx E a w,Rel N cx E st a w->∀L,ro l.toArray (abw l.toArray.size η) L->wpOps P l.toArray (H4 N cx (onN K)) L a {w with drawn:=w.drawn+1}
theorem Kc{l:List Oper}{st:St}{K:St->Prop}(p q:Nat)(hpq:fW p q=η)(h1:AWA P N (mz l p q) st K)(h2:AWA P N (mz l q p) st K):AWA P N l st K:=by
 intro cx E a w hR L hv
 have e1:(mz l p q).toArray.size=l.toArray.size:=by simp[GW]
 have e2:(mz l q p).toArray.size=l.toArray.size:=by simp[GW]
 have hne:p≠q:=λe=>by simp_all
 rcases FA hne L _ (by simp) (iS _ _) (iS _ _) hv with k|k
 .rw[<-e1] at k;exact Cq L _ _ (h1 cx E a w hR L k)
 rw[<-e2] at k;exact Cq L _ _ (h2 cx E a w hR L k)
theorem Lt{l:List Oper}{st:St}{K:St->Prop}(is:List Nat){r:List (Nat×Oper)}(he:LD l.toArray is=ζ)(hc:Ql l.length is=ζ)(ho:Is l is=ς r)(h:DZ P N l.toArray r [] [] [] st st K):AWA P N l st K:=by
 intro cx E a w hR L hv
 have hR':=Dz hR
 have hedge:=UB he
 have hfull:unl l.toArray (abw l.toArray.size η)=l.toArray.size:=by
  unfold unl
  rw[aev.2]
  .simp
  simp_all
 have:=Xu (P:=P) (cx:=cx) (Q:=H4 N cx (onN K)) hedge (λE st a w hR hK=>⟨E,st,hR,hK⟩) h rfl (λq hq=>by have:=(t7 ho).1 q hq;simp_all) (λj hj=>by
  have hj':j<l.length:=by simpa using hj
  have:=aa4.1 hc j (by simp_all)
  exact .inr (.inr ((t7 ho).2 j (gm.1 this)))) (λi o y _ hy=>by simp at hy) (λk=>rfl) rfl rfl (abw l.toArray.size η) a _ E (by simp) (λi o ho hd=>by rw[iS] at hd;cases hd) (λj=>by rw[iS];simp[jg]) hR'
 exact Lb L _ _ _ _ hv (La L _ (by simp) hv) this
theorem R7{id:Nat}{l:List Oper}{st:St}{AQ:Exit->St->Prop}(M:St)[c:Clo N AQ](hm:P.follows .mixedOrders=ζ)(h:AWA P N l st (λs=>cO N s M))(h2:AQ .normal M):AWC P N (.region id l.toArray ζ) st AQ:=by
 refine Cz (AQ:=onN λs=>cO N s M) ?_ (λe s h=>by
  cases e<;>first|exact c.h _ _ _ h h2|exact h.elim)
 intro cx E a w hR
 exact wp_region_draw λt=>by
  simp only[Region.schedule,hm,Bool.true_or,if_true]
  exact h cx E a w hR _ (UV _ _ _ (by simp) (by
   unfold unl
   grind))
def cpD(els:List α)(off:Nat)(ys:List α):List α:=els.take off++cpL (els.drop off) ys
theorem aa6{β:Type}(f:α->β)(els ys:List α)(off:Nat):cpD (els.map f) off (ys.map f)=(cpD els off ys).map f:=by simp[cpD,<-aeb,<-aeg,Sj]
@[simp] theorem cpD_len (els ys:List α) (off:Nat):(cpD els off ys).length=els.length:=by simp[cpD];omega
section
variable{P:Program}{N:Nat}{d:Tmp}{ty:TypeId}{ps:String}{af:Array Edge}{gd:Option (Nat×Bool)}{x y z:Operand}{st:St}
theorem YJ{o off len:Nat}{ys:Lad}{c:C}[ht:dz P t e sz by_](hd:d<N)(hx:opT st.sl x= .v (.c (.s o sz off len)))(hy:opT st.sl y= .v (.c c))(ho:go st.ob o=ς (.row e sz els g ζ))(hs:Src st.ob c ys gy)(hn:els.length=off+len)(hsz:∀e∈ys,e.length=sz):
 AWO P N ⟨ς d,.call ⟨.builtin .copy,#[x,y],#[t,t]⟩,ty,ps,af,gd⟩ st ⟨(d,.any)::st.sl,(o,.row e sz (cpD els off ys) (g&&gy) ζ)::st.ob,st.nx⟩:=by
 intro cx E a w hR
 have h1:=hR.op x;rw[hx] at h1
 have h2:=hR.op y;rw[hy] at h2
 obtain⟨AA,cc,b,kk,hr,hu,hlc0,_,hAA⟩:=h1
 obtain⟨b',c',arr,hr',hh,ha,hlc,hmx,hes,hrd,hFm,_⟩:=hR.obs o _ ho
 rw[hr] at hr';cases hr'
 have hF:=hFm rfl
 obtain⟨A,k,hv,hyk,hA⟩:=RE hR hs h2
 obtain⟨ii,zz,i1,i2,i3,i4,i5⟩:=ht.i
 obtain⟨m,hm⟩:∃m,m=Nat.min ys.length len:=⟨_,rfl⟩
 have hm1:m<=ys.length:=by rw[hm];exact Nat.min_le_left _ _
 have hm2:m<=len:=by rw[hm];exact Nat.min_le_right _ _
 have hcp:cpD els off ys=els.take off++ys.take m++els.drop (off+m):=by
  unfold cpD cpL
  rw[List.length_drop,List.drop_drop,List.append_assoc,hn,show off+len-off=len by omega]
  congr 1
  rcases Nat.le_total ys.length len with h|h
  .grind
  simp_all
 have hsrc:∃news:Lae,news.length=m*sz/\(∀u∈news,u.oneCell'=ζ)/\(∀(j:Nat) (xd:D),(ys.take m).flatten[j]?=ς xd->∃u,news[j]?=ς u/\rdD w (E.H gy) xd u)/\
  (Builtin.firstCells sz m (.slice A ys.length k)).run P w= .ok news.toArray w:=by
  rcases hA with h0|⟨b2,off,rfl,hrd2⟩
  .subst h0
   have hm0:m=0:=by simpa using hm1
   refine⟨[],by simp[hm0],by simp,by simp,?_⟩
   cases A with
   |none=>rfl
   |some ad=>simp[Builtin.firstCells,hm0,loadCells,loadCellsFrom]
  obtain⟨us,q1,q2,q3,q4⟩:=wy (eN.1 (oc m hrd2))
  have ql:us.length=m*sz:=by
   rw[q1,eF (λe he=>hsz e (adk he)),ad0,ad1 hm1]
  refine⟨us,ql,q3,q4,?_⟩
  simp only[Builtin.firstCells]
  exact Bu ql (λj u hj=>by have:=q2 j u hj;rwa [vy] at this)
 obtain⟨news,n1,n2,n3,n4⟩:=hsrc
 have hmul:off*sz+m*sz<=arr.size:=by rw[ha,<-aeu];exact adh _ oaa
 have hrun:∃w',w'=w.setRow b (arr.toList.take (off*sz)++news++arr.toList.drop (off*sz+m*sz)).toArray/\(Builtin.copy_ #[t,t] ty #[.slice AA len cc,.slice A ys.length k]).run P w= .ok (goInt m) w':=by
  refine⟨_,rfl,?_⟩
  rcases hAA with h0|rfl
  .have hm0:m=0:=by omega
   subst hm0
   have hn0:news=[]:=adn oaa
   subst hn0
   have hw:w.setRow b (arr.toList.take (off*sz)++[]++arr.toList.drop (off*sz+0*sz)).toArray=w:=by
    rw[aey,adC,aeE,aex,adG,setRow_self w b arr e (0,0) hh]
   rw[hw]
   simp only[Builtin.copy_]
   simp[underlying,ht.u,Builtin.lenOf,ey i1,i2]
   rw[<-hm,n4]
   cases AA<;>simp[storeCells]
  have hst:=run_storeCells_at (P:=P) b (off*sz) e news 0 arr w hh oaa n2
  simp only[adC,n1] at hst
  simp only[Builtin.copy_]
  simp[underlying,ht.u,Builtin.lenOf,ey i1,i2]
  simp_all
 obtain⟨w',hw',hrun⟩:=hrun
 unfold Oper.wp
 simp only[execOp,resolve,invoke,builtin,Sem.run_bind,Sem.run_pure,Result.andThen_ok,ad8,adU,ad3,hu,hv,hrun,Oper.upon_value]
 subst hw'
 generalize hcs:(arr.toList.take (off*sz)++news++arr.toList.drop (off*sz+m*sz)).toArray=cs
 have hk:=mc (cs:=cs) (w:=w) hR.ok hr hF
 have hall:∀e'∈cpD els off ys,e'.length=sz:=λe' he'=>by
  grind
 have hlt:(arr.toList.take (off*sz)).length=off*sz:=by simp;omega
 have hrel:=ud (ob':=.row e sz (cpD els off ys) (g&&gy) ζ) (cs:=cs) hR hr hF ⟨b,_,_,hr,g8 _ hh,by grind,by grind,hmx,hall,by
  rw[eN]
  refine mG λj xd hj=>?_
  rw[aa5,dX (g8 _ hh),show cs[j]?=(arr.toList.take (off*sz)++news++arr.toList.drop (off*sz+m*sz))[j]? by grind]
  rw[hcp,ad2,ad2] at hj
  have hft:(els.take off).flatten.length=off*sz:=by rw[eF (λe he=>hes e (adk he)),ad0,ad1 oaa]
  have hfl:(ys.take m).flatten.length=m*sz:=by rw[eF (λe he=>hsz e (adk he)),ad0,ad1 hm1]
  have old:∀(p:Nat) (xd:D),els.flatten[p]?=ς xd->∃u,arr[p]?=ς u/\rdD (w.setRow b cs) (E.H (g&&gy)) xd u:=λp xd hp=>by
   obtain⟨u,u1,u2⟩:=iz (eN.1 hrd) hp
   rw[aa5,dX hh] at u1
   exact⟨u,u1,bQ (hk.heap _) (hk.H _) _ _ (qX hR.ok u2 (by simp_all))⟩
  by_cases hj1:j<off*sz
  .rw[aa8 (by grind),aa8 oaa] at hj
   have hjd:els.flatten[j]?=ς xd:=by
    rw[<-aex off els,ad2,aa8 oaa];exact hj
   obtain⟨u,u1,u2⟩:=old _ _ hjd
   grind
  by_cases hjn:j<off*sz+m*sz
  .rw[aa8 (by simp_all),aa3 oaa,hft] at hj
   obtain⟨u,u1,u2⟩:=n3 _ _ hj
   exact⟨u,by grind,bQ (hk.heap _) (hk.H _) _ _ (qX hR.ok u2 (by simp))⟩
  rw[aa3 (by simp_all),ads,hft,hfl] at hj
  have hjd:els.flatten[j]?=ς xd:=by
   have e1:els.flatten=(els.take (off+m)).flatten++(els.drop (off+m)).flatten:=by rw[<-ad2,aex]
   have e2:(els.take (off+m)).flatten.length=off*sz+m*sz:=by rw[eF (λe he=>hes e (adk he)),ad0,ad1 oaa,aeu]
   rw[e1,aa3 oaa,e2];exact hj
  obtain⟨u,u1,u2⟩:=old _ _ hjd
  refine⟨u,?_,u2⟩
  have hl2:(arr.toList.take (off*sz)++news).length=off*sz+m*sz:=by rw[ads,hlt,n1]
  rw[aa3 oaa,hl2,List.getElem?_drop,show off*sz+m*sz+(j-(off*sz+m*sz))=j from by omega]
  simp_all,λ_=>hF,(λh=>by cases h),θ⟩
 exact⟨E,hrel.putAny hd _⟩
theorem cpsT{enc:α->List D}{ob:Laa}{o:Nat}{ys zs:List α}{zd:Lad}{l:Int}{gg:Bool}{c:C}[dz P t e sz by_](H:d6 ys l ys.length=ζ)(hzd:zs.map enc=zd:=by exact rfl)(henc:∀a,(enc a).length=sz:=by exact λ_=>rfl)(hd:nlt d N=true:=by exact rfl)(hx:opT sl x= .v (.c (.s o sz l.toNat (n-l.toNat))):=by exact rfl)(hy:opT sl y= .v (.c c):=by exact rfl)(hn:ys.length=n:=by first|rfl|simp)(hs:Src ob c zd gy:=by first|exact .d|exact .nil|exact .w rfl (by first|rfl|exact lm _|simp)|exact .wn rfl (by first|rfl|exact lm _|simp))(ho:go ob o=ς (.row e sz (ys.map enc) g ζ):=by exact rfl)(hg:(g&&gy)=gg:=by exact rfl):
 AWO P N ⟨ς d,.call ⟨.builtin .copy,#[x,y],#[t,t]⟩,ty,ps,af,gd⟩ ⟨sl,ob,nx⟩ ⟨(d,.any)::sl,(o,.row e sz ((cpD ys l.toNat zs).map enc) gg ζ)::ob,nx⟩:=by
 simp only[d6,decide_eq_true_eq] at H
 subst hzd;subst hg;subst hn
 have:=YJ (P:=P) (N:=N) (st:=⟨sl,ob,nx⟩) (d:=d) (ty:=ty) (ps:=ps) (af:=af) (gd:=gd) (t:=t) (e:=e) (sz:=sz) (by_:=by_) (bV hd) hx hy ho hs (by simp_all) (JN henc zs)
 rwa [aa6] at this
theorem weak_g{o:Nat}{rt:TypeId}{ob:Laa}(ho:go ob o=ς (.row rt sz els ζ ζ):=by exact rfl):cO N ⟨sl,ob,nx⟩ ⟨sl,(o,.row rt sz els η ζ)::ob,nx⟩:=by
 intro cx E a w hR
 refine⟨E,hR.ok,hR.dom,λl x hl=>?_,hR.sl,hR.dfr,hR.size,hR.td⟩
 by_cases e:o=l
 .subst e
  rw[bX] at hl;cases hl
  obtain⟨b,c,arr,hr,hh,h1,h2,h3,h4,h5,h6,h7⟩:=hR.obs _ _ ho
  exact⟨b,c,arr,hr,hh,h1,h2,h3,h4,bP (λ_ _=>rfl) (λb hb=>hR.ok.gf b hb) rfl _ _ h5,h6,(λhm=>by cases hm),θ⟩
 rw[bg _ _ e] at hl;exact hR.obs l x hl
end
end Go.AM
namespace Go.AM
variable{G R p:Prop}{N j b n nx e l q sz by_ m:Nat}{α:Type}{r:Go.AM.RC}{sl sl':Go.AM.Lab}{ob':Go.AM.Laa}{P:Program}{f:FuncId}{res:List Go.AM.RV}{els:Go.AM.Lad}{v:Go.AM.V}{u:Value}{t:TypeId}{cx:Go.AM.Cx}{E:Go.AM.Env}{w:World}{g:Go.AM.Gr}{a:Act}{ns:List Go.AM.D}{y:Go.AM.Ob}
theorem wkb(hr:R)(h:R->G:=by intro h;(repeat' (first|refine Sa ?_|refine yR ?_|refine Lu ?_|refine BC ?_|refine Bl rfl ?_|refine yP rfl ?_|refine R9 ?_|refine Nu ?_|refine tn ?_|refine tr ?_|refine Kd ?_|refine Nq ?_|refine te ?_|refine bx rfl ?_|refine bo rfl ?_|refine bn ?_|refine br ?_|refine Xt (by kernel_rfl) rfl ?_|((first|apply Bn rfl|apply Lv rfl rfl rfl rfl|apply Bb rfl|apply Xs rfl rfl rfl rfl); · first|exact op rfl rfl rfl rfl|exact opa rfl rfl rfl rfl|exact oq rfl rfl rfl|exact oqa rfl rfl rfl|exact fp rfl rfl rfl|exact fq rfl rfl rfl|exact fe rfl rfl rfl|exact io rfl rfl rfl rfl|exact se rfl rfl rfl|exact bq rfl rfl rfl|exact qe rfl rfl rfl rfl rfl rfl rfl|exact sn rfl rfl rfl|exact bne rfl rfl rfl|exact qn rfl rfl rfl rfl rfl rfl rfl|exact mv1 rfl rfl|exact mv2 rfl rfl|exact mv3 rfl rfl|exact as1 rfl rfl|exact as2 rfl rfl|exact as3 rfl rfl|exact ldT rfl rfl|exact ld rfl rfl|exact lw rfl rfl|exact lwn rfl rfl|exact ls rfl rfl|exact ln rfl rfl|exact lstr rfl rfl|exact lz rfl rfl|exact fz rfl rfl rfl|exact oz rfl rfl rfl|exact oza rfl rfl rfl|exact un rfl rfl|exact ng rfl rfl|exact ba rfl rfl rfl|exact bc rfl rfl rfl rfl|exact al rfl rfl|exact pk1 rfl rfl rfl|exact pk0 rfl rfl rfl|exact ex rfl rfl rfl|exact nc rfl rfl|exact fv rfl rfl rfl|exact fva rfl rfl rfl|exact bd rfl rfl rfl|exact cv rfl rfl|exact bt1 rfl rfl|exact ib rfl rfl rfl rfl)|(apply qK rfl; · first|exact sp rfl rfl rfl rfl rfl rfl rfl|exact stz rfl rfl rfl rfl)|refine gs rfl rfl rfl rfl rfl rfl ?_|refine zgs rfl rfl rfl rfl rfl rfl rfl ?_|fail));exact h):G:=h hr
inductive F where
 |s (d:D)
 |l (t z:Nat) (e:Lad) (n:Nat)
inductive LM where
 |t
 |f
 |z
 |w (o:Nat)
 |n (o:Nat)
def LM.c:LM->Lad->Nat->C
 | .t,e,_=>.d ζ (.l e)
 | .f,e,_=>.d η (.l e)
 | .z,_,_=>.nil
 | .w o,_,k=>.w o k
 | .n o,_,k=>.wn o k
def kM:List LM->List F->List C
 |ms,.s d::r=>.d η d::kM ms r
 |m::ms,.l _ _ e n::r=>m.c e n::kM ms r
 |_,_=>[]
def LM.o:LM->Nat->Nat->Lad->Laa->Laa
 | .w o,a,b,e,r=>(o,.row a b e ζ ζ)::r
 | .n o,a,b,e,r=>(o,.rown a b e ζ)::r
 |_,_,_,_,r=>r
def rM:List LM->List F->Laa->Laa
 |ms,.s _::r,q=>rM ms r q
 |m::ms,.l t z e _::r,q=>m.o t z e (rM ms r q)
 |_,_,q=>q
def oM(ms:List LM)(o ty:Nat)(x:List F):Laa:=rM ms x [(o,.var ty (kM ms x))]
inductive RM where
 |d
 |o
 |z
def RM.c:RM->Nat->Nat->Lad->Nat->RC
 | .d,_,_,e,_=>.d (.l e)
 | .o,a,b,e,n=>.own a b e n
 | .z,_,_,_,_=>.nil
def qM:List RM->List F->List RC
 |ms,.s d::r=>.d d::qM ms r
 |m::ms,.l t z e n::r=>m.c t z e n::qM ms r
 |_,_=>[]
abbrev tP(o:Nat):T:=.v (.c (.p o 0))
section
variable{P:Program}{N:Nat}{st st':St}{i:Inf}{d:Tmp}{ty t t2:TypeId}{x y z:Operand}{f:Nat}{bo:BinOp}{uo:UnOp}{as:Array Operand}{tys:Array TypeId}{ps:String}{af:Array Edge}{gd:Option (Nat×Bool)}
theorem kMv(h:NS P N ⟨ς d,.move x,ty,ps,af,gd⟩ st st' i):NS P N ⟨ς d,.move x,ty,ps,af,gd⟩ st st' i:=h
theorem kLd(h:NS P N ⟨ς d,.load t x,ty,ps,af,gd⟩ st st' i):NS P N ⟨ς d,.load t x,ty,ps,af,gd⟩ st st' i:=h
theorem kAs(h:NS P N ⟨ς d,.assign x,ty,ps,af,gd⟩ st st' i):NS P N ⟨ς d,.assign x,ty,ps,af,gd⟩ st st' i:=h
theorem kFa(h:NS P N ⟨ς d,.fieldAddr t x f,ty,ps,af,gd⟩ st st' i):NS P N ⟨ς d,.fieldAddr t x f,ty,ps,af,gd⟩ st st' i:=h
theorem kBo(h:NS P N ⟨ς d,.binOp bo t x y t2,ty,ps,af,gd⟩ st st' i):NS P N ⟨ς d,.binOp bo t x y t2,ty,ps,af,gd⟩ st st' i:=h
theorem kLn(h:NS P N ⟨ς d,.call ⟨.builtin .len,as,tys⟩,ty,ps,af,gd⟩ st st' i):NS P N ⟨ς d,.call ⟨.builtin .len,as,tys⟩,ty,ps,af,gd⟩ st st' i:=h
theorem kUn(h:NS P N ⟨ς d,.unOp uo t x,ty,ps,af,gd⟩ st st' i):NS P N ⟨ς d,.unOp uo t x,ty,ps,af,gd⟩ st st' i:=h
theorem kFv(h:NS P N ⟨ς d,.field t x f,ty,ps,af,gd⟩ st st' i):NS P N ⟨ς d,.field t x f,ty,ps,af,gd⟩ st st' i:=h
theorem kPk(h:NS P N ⟨ς d,.pick x y z,ty,ps,af,gd⟩ st st' i):NS P N ⟨ς d,.pick x y z,ty,ps,af,gd⟩ st st' i:=h
theorem kBx(h:NS P N ⟨ς d,.box t x,ty,ps,af,gd⟩ st st' i):NS P N ⟨ς d,.box t x,ty,ps,af,gd⟩ st st' i:=h
theorem kCv(h:NS P N ⟨ς d,.convert t t2 x,ty,ps,af,gd⟩ st st' i):NS P N ⟨ς d,.convert t t2 x,ty,ps,af,gd⟩ st st' i:=h
end
theorem wJ(h:R->G:=by(intro h;(repeat' (first|refine Sa ?_|refine yR ?_|refine Lu ?_|refine BC ?_|refine Bl rfl ?_|refine yP rfl ?_|refine R9 ?_|refine Nu ?_|refine tn ?_|refine tr ?_|refine Kd ?_|refine Nq ?_|refine te ?_|refine bx rfl ?_|refine bo rfl ?_|refine bn ?_|refine br ?_|refine Xt (by kernel_rfl) rfl ?_|refine dr_nil ⟨by kernel_rfl,?_⟩|((first|apply Bn rfl|apply Lv rfl rfl rfl rfl|apply Bb rfl|apply Xs rfl rfl rfl rfl|apply dr_n rfl|apply Xp rfl rfl rfl rfl); · first|(apply kMv;first|exact mv1 rfl rfl|exact mv2 rfl rfl|exact mv3 rfl rfl)|(apply kLd;first|exact op rfl rfl rfl rfl|exact opa rfl rfl rfl rfl|exact oq rfl rfl rfl|exact oqa rfl rfl rfl|exact oz rfl rfl rfl|exact oza rfl rfl rfl)|(apply kAs;first|exact as1 rfl rfl|exact as2 rfl rfl|exact as3 rfl rfl)|(apply kFa;first|exact fp rfl rfl rfl|exact fq rfl rfl rfl|exact fe rfl rfl rfl|exact fz rfl rfl rfl)|(apply kBo;first|exact iqT rfl rfl rfl rfl|exact iqF rfl rfl rfl rfl|exact io rfl rfl rfl rfl|exact se rfl rfl rfl|exact bq rfl rfl rfl|exact qe rfl rfl rfl rfl rfl rfl rfl|exact sn rfl rfl rfl|exact bne rfl rfl rfl|exact qn rfl rfl rfl rfl rfl rfl rfl|exact ib rfl rfl rfl rfl)|exact nc rfl rfl|(apply kLn;first|exact ldT rfl rfl|exact ld rfl rfl|exact lw rfl rfl|exact lwn rfl rfl|exact ls rfl rfl|exact ln rfl rfl|exact lstr rfl rfl|exact lz rfl rfl)|exact bd rfl rfl rfl|exact bs rfl rfl rfl rfl rfl rfl rfl rfl|(apply kUn;first|exact un rfl rfl|exact ng rfl rfl)|(apply kFv;first|exact fv rfl rfl rfl|exact fva rfl rfl rfl)|exact al rfl rfl|exact ex rfl rfl rfl|(apply kPk;first|exact pk1 rfl rfl rfl|exact pk0 rfl rfl rfl)|(apply kBx;first|exact ba rfl rfl rfl|exact bc rfl rfl rfl rfl)|(apply kCv;first|exact cv rfl rfl|exact bt1 rfl rfl))|(apply qK rfl; · first|exact sp rfl rfl rfl rfl rfl rfl rfl|exact stz rfl rfl rfl rfl)|refine gs rfl rfl rfl rfl rfl rfl ?_|refine zgs rfl rfl rfl rfl rfl rfl rfl ?_|refine dgs rfl rfl rfl rfl rfl rfl rfl ?_|fail));exact h)):R->G:=h
theorem wI(hr:R)(h:R->G:=by exact wJ):G:=h hr
theorem wo{st st':St}(h1:LeS st.sl st'.nx st'.sl:=by repeat (first|exact θ|refine⟨rfl,rfl,?_⟩|refine⟨wn rfl (by first|rfl|simp),rfl,?_⟩|refine⟨wnn rfl (by first|rfl|simp),rfl,?_⟩))(h2:LeO st.ob st'.nx st'.ob:=by repeat (first|exact θ|refine⟨rfl,⟨rfl,rfl⟩,?_⟩)):cO N st st':=M7 h1 h2
section
variable{P:Program}{N:Nat}{st st':St}{AQ:Exit->St->Prop}{ops:Array Oper}{l:List Oper}{o:Oper}{x:Inf}{K:St->Prop}{R:Prop}
theorem nA(h:NS P N o st st' x)(hr:R)(hg:o.guard=none:=by exact rfl)(w:R->AWR P N ops l st' K:=by exact wJ):AWR P N ops (o::l) st K:=Bn hg h (w hr)
theorem nG{dj:Tmp}{b:Bool}(h:NS P N o st st' x)(hr:R)(hg:o.guard=ς (j,b):=by exact rfl)(hj:(ops[j]?).bind (·.dst)=ς dj:=by exact rfl)(hdj:nlt dj N=true:=by exact rfl)(hb:gt st.sl dj=tB b:=by exact rfl)(w:R->AWR P N ops l st' K:=by exact wJ):AWR P N ops (o::l) st K:=Lv hg hj hdj hb h (w hr)
theorem sA(h:AWO P N o st st')(hr:R)(hg:o.guard=none:=by exact rfl)(w:R->AWR P N ops l st' K:=by exact wJ):AWR P N ops (o::l) st K:=qK hg h (w hr)
theorem cC{c:Operand}{X Y:Code}{b:Bool}{p q r:Option α}{R1 R0:Prop}(H:(bif b then p else q)=r)(h1:p=r->R1)(h0:q=r->R0)(hb:opT st.sl c=tB b:=by exact rfl)(w1:R1->AWC P N X st AQ:=by exact wJ)(w0:R0->AWC P N Y st AQ:=by exact wJ):AWC P N (.cond c X Y) st AQ:=
 WX hb (λh=>w1 (h1 (bt h H))) (λh=>w0 (h0 (bf h H)))
theorem jA{X:Code}{R1 R2:Prop}(M:St)[c:Clo N AQ](h1:R1)(h2:R2)(w1:R1->AWC P N X st (vw (λs=>cO N s M) AQ):=by exact wJ)(w2:R2->AQ .normal M:=by exact wJ):AWC P N X st AQ:=Nt M (w1 h1) (w2 h2)
theorem jB{X:Code}{id:Nat}{R1 R2:Prop}(M:St)[c:Clo N AQ](h1:R1)(h2:R2)(w1:R1->AWC P N X st (jv id (vw (λs=>cO N s M) AQ)):=by exact wJ)(w2:R2->AQ .normal M:=by exact wJ):AWC P N X st (jv id AQ):=Ns M (w1 h1) (w2 h2)
theorem jR{R1 R2:Prop}(M:St)[c:Jw N K](h1:R1)(h2:R2)(w1:R1->AWR P N ops l st (λs=>cO N s M):=by exact wJ)(w2:R2->K M:=by exact wJ):AWR P N ops l st K:=Nv M (w1 h1) (w2 h2)
theorem zI(is:List Nat){ll:List Oper}{id:Nat}{r:List (Nat×Oper)}(hr:R)(hm:P.follows .mixedOrders=true:=by exact Try.follows)(he:Gm ll.toArray=true:=by kernel_rfl)(hc:Ql ll.length is=true:=by kernel_rfl)(ho:Is ll is=ς r:=by exact rfl)(w:R->DZ P N ll.toArray r [] [] [] st st (λs=>AQ .normal s):=by exact wJ):AWC P N (.region id ll.toArray ζ) st AQ:=yQ is hm he hc ho (w hr)
theorem dI{ll:List Oper}{id:Nat}(hr:R)(hm:P.follows .mixedOrders=true:=by exact Try.follows)(hol:YL st.nx st.ob=true:=by exact rfl)(w:R->DR P N ll.toArray ll [] st (λis t=>BI ll.toArray is st.nx=ζ/\AQ .normal t):=by exact wJ):AWC P N (.region id ll.toArray ζ) st AQ:=WY hm hol (w hr)
section
variable{KK:List Inf->St->Prop}{is:List Inf}
theorem dA(h:NS P N o st st' x)(hr:R)(hg:o.guard=none:=by exact rfl)(w:R->DR P N ops l (is++[x]) st' KK:=by exact wJ):DR P N ops (o::l) is st KK:=dr_n hg h (w hr)
theorem dG{dj:Tmp}{b:Bool}(h:NS P N o st st' x)(hr:R)(hg:o.guard=ς (j,b):=by exact rfl)(hj:(ops[j]?).bind (·.dst)=ς dj:=by exact rfl)(hdj:nlt dj N=true:=by exact rfl)(hb:gt st.sl dj=tB b:=by exact rfl)(w:R->DR P N ops l (is++[{x with needs:=(.tmp dj,tB b)::x.needs}]) st' KK:=by exact wJ):DR P N ops (o::l) is st KK:=Xp hg hj hdj hb h (w hr)
end
section
variable{α:Type}{p q r:Option α}{R1 R0:Prop}{j:Nat}{dj:Tmp}{b c:Bool}{sl:Lab}{ob:Laa}{nx:Nat}
theorem gC(H:(bif c then p else q)=r)(h1:p=r->R1)(h0:q=r->R0)(hg:o.guard=ς (j,b):=by exact rfl)(hj:(ops[j]?).bind (·.dst)=ς dj:=by exact rfl)(hb:gt sl dj=tB c:=by exact rfl)(w1:R1->AWR P N ops (o::l) ⟨(dj,tB ζ)::sl,ob,nx⟩ K:=by exact wJ)(w0:R0->AWR P N ops (o::l) ⟨(dj,tB η)::sl,ob,nx⟩ K:=by exact wJ):AWR P N ops (o::l) ⟨sl,ob,nx⟩ K:=
 g2 hg hj hb (λh=>w1 (h1 (bt h H))) (λh=>w0 (h0 (bf h H)))
theorem dC{is:List Inf}{KK:List Inf->St->Prop}(H:(bif c then p else q)=r)(h1:p=r->R1)(h0:q=r->R0)(hg:o.guard=ς (j,b):=by exact rfl)(hj:(ops[j]?).bind (·.dst)=ς dj:=by exact rfl)(hb:gt sl dj=tB c:=by exact rfl)(w1:R1->DR P N ops (o::l) is ⟨(dj,tB ζ)::sl,ob,nx⟩ KK:=by exact wJ)(w0:R0->DR P N ops (o::l) is ⟨(dj,tB η)::sl,ob,nx⟩ KK:=by exact wJ):DR P N ops (o::l) is ⟨sl,ob,nx⟩ KK:=
 dg2 hg hj hb (λh=>w1 (h1 (bt h H))) (λh=>w0 (h0 (bf h H)))
end
section
variable{lz:List (Nat×Oper)}{dn seg:List Nat}{ys:List Inx}{base:St}{p:Nat}{y:Inx}
theorem zA(h:NS P N o st st' x)(hr:R)(hg:o.guard=none:=by exact rfl)(w:R->DZ P N ops lz dn (seg++[p]) (ys++[⟨x,[],ξ⟩]) base st' K:=by exact wJ):DZ P N ops ((p,o)::lz) dn seg ys base st K:=Bb hg h (w hr)
theorem wA(h:NX P N o st st' y)(hr:R)(hg:o.guard=none:=by exact rfl)(w:R->DZ P N ops lz dn (seg++[p]) (ys++[y]) base st' K:=by exact wJ):DZ P N ops ((p,o)::lz) dn seg ys base st K:=Ed hg h (w hr)
theorem zB{st0 st1 st2:St}{dn':List Nat}(hw:cO N st st0)(h:BO P N ops o st0 st1)(hw2:cO N st1 st2)(hr:R)(hs:Ab ops dn seg ys=true:=by kernel_rfl)(hkl:kls ys=[]:=by exact rfl)(hb:G1 ops (seg++dn) p=true:=by kernel_rfl)(hlo:p::(seg++dn)=dn':=by exact rfl)(w:R->DZ P N ops lz dn' [] [] st2 st2 K:=by exact wJ):DZ P N ops ((p,o)::lz) dn seg ys base st K:=dz_bar hs hkl hb hw h hw2 hlo (w hr)
end
theorem aW(hw:cO N st st')(hr:R)(w:R->AWR P N ops l st' K:=by exact wJ):AWR P N ops l st K:=cd hw (w hr)
theorem iT{c:Code}{σ ρ:Type}{step:σ->Option (bJ σ ρ)}{x0:σ}{r:ρ}(H:iter step n x0=ς r)(S:σ->St)(round:∀x o,step x=ς o->AWC P N c (S x) (eB N S r o AQ))(h0:cO N st (S x0):=by exact wo):AWC P N (.loop c) st AQ:=Nr S H h0 round
end
theorem wB{ob:Laa}(o:Nat)(k:Nat)(hs:Ao o k sl=ς sl':=by exact rfl)(ho:J7 o k ob=ς ob':=by exact rfl)(he:Eqs (RS o k sl):=by repeat (first|exact θ|refine⟨by first|rfl|simp,?_⟩))(he2:Eqs (PT o k ob):=by repeat (first|exact θ|refine⟨by first|rfl|simp,?_⟩)):cO N ⟨sl,ob,nx⟩ ⟨sl',ob',nx⟩:=PR hs ho he he2
theorem wS{ob:Laa}(p q:Nat)(hp:rsv p=false:=by exact rfl)(hq:rsv q=false:=by exact rfl)(hpn:nlt p nx=true:=by exact rfl)(hqn:nlt q nx=true:=by exact rfl):cO N ⟨sl,ob,nx⟩ ⟨swS p q sl,swO p q ob,nx⟩:=PQ hp hq hpn hqn
theorem fI{fn:Func}{c:Code}{args:List AV}{rs:List ResultVar}{sl0:Lab}(hf:P.funcs[f]?=ς fn)(hN:fn.ntmps=N)(hr:R)(hb:fn.body=ς c:=by exact rfl)(hnm:(fn.name== "runtime.NumGoroutine")=false:=by kernel_rfl)(hrs:fn.results.toList=rs:=by exact rfl)(ha:abD args.length N=true:=by exact rfl)(hs:Np 0 args=ς sl0:=by exact rfl)(w:R->AWC P N c ⟨sl0,[],0⟩ (vW N P rs res):=by exact wJ):Fn P f args res:=fn_in hf hb hnm hN hrs ha hs (w hr)
theorem fV{fn:Func}{c:Code}{xs ys:Laa}{args:List T}{rs:List ResultVar}{out:T}{nw:Laa}{sl0:Lab}(hf:P.funcs[f]?=ς fn)(hN:fn.ntmps=N)(hr:R)(hb:fn.body=ς c:=by exact rfl)(hnm:(fn.name== "runtime.NumGoroutine")=false:=by kernel_rfl)(hrs:fn.results.toList=rs:=by exact rfl)(ha:abD args.length N=true:=by exact rfl)(hs:Cy 0 args=sl0:=by exact rfl)(w:R->AWC P N c ⟨sl0,xs,210⟩ (tf N P rs ys out nw):=by exact wJ):FnV P f xs args ys out nw:=XJ hf hb hnm hN hrs ha hs (w hr)
theorem aa{β:Type}{p:Option α}{f:α->Option β}{y:β}(H:p.bind f=ς y)(k:∀x,p=ς x->f x=ς y->G):G:=by
 obtain⟨x,h1,h2⟩:=ob H
 exact k x h1 h2
theorem ai(H:p)(h:p->G:=by(intro H;cases H;exact wo)):G:=h H
theorem ao(H:p)(h:p->G:=by(intro H;cases H;exact iw)):G:=h H
theorem aN(H:p)(h:p->G:=by(intro H;cases H;refine yH ?_;exact wo)):G:=h H
theorem aE(H:p)(h:p->G:=by(intro H;cases H;refine HS (λhq=>?_);cases hq;refine wI ?_;exact wo)):G:=h H
theorem aR{AQ:Exit->St->Prop}{σ ρ:Type}{m:Option ρ}{o:bJ σ ρ}{S:σ->St}{r:ρ}{e:Exit}{s:St}(H:dn m=ς o)(k:m=ς r->R)(he:∀r',(r'=r->AQ e s)->eB N S r (.done r') AQ e s:=by(intro r' h;first|exact HS h|exact iq_r h))(w:R->AQ e s:=by exact wJ):eB N S r o AQ e s:=by
 obtain⟨r0,Hd,rfl⟩:=dnE H
 exact he r0 λhq=>w (k (Hd.trans (congrArg ς hq)))
theorem aQ(H:p)(h:p->G:=by(intro H;refine aR H λH=>?_;exact ao H)):G:=h H
theorem ad(hr:R)(h:R->G:=by(intro h;(try dsimp only);revert h;exact wJ)):G:=h hr
theorem az(H:p)(h:p->G:=by(intro H;repeat' (first|(refine gC H ?_ ?_<;>intro H)|(refine cC H ?_ ?_<;>intro H)|exact ai H))):G:=h H
theorem ay(H:p)(h:p->G:=by(intro H;repeat' (first|(refine cC H ?_ ?_<;>intro H)|(refine gC H ?_ ?_<;>intro H)|exact ao H))):G:=h H
theorem au:(∀{α β:Type} (a:α) (f:α->Option β),Option.bind (ς a) f=f a)/\(∀{α:Type} (a b:α),cond ζ a b=a)/\(∀{α:Type} (a b:α),cond η a b=b)/\(!true)=η/\(!false)=true:=⟨λ_ _=>rfl,λ_ _=>rfl,λ_ _=>rfl,rfl,rfl⟩
def Gr.rg(f:Nat->Nat):Gr->Gr
 | .s l=>.s (f l)
 | .t l=>.t (f l)
 |g=>g
def C.rg(f:Nat->Nat):C->C
 | .d g x=>.d (g.rg f) x
 | .q g x j=>.q (g.rg f) x j
 | .r l x=>.r (f l) x
 |c=>c
def V.rg(f:Nat->Nat):V->V
 | .c y=>.c (y.rg f)
 | .agg cs=>.agg (cs.map (C.rg f))
def T.rg(f:Nat->Nat):T->T
 | .v y=>.v (y.rg f)
 | .tup vs=>.tup (vs.map (V.rg f))
 | .any=>.any
def Ob.rg(f:Nat->Nat):Ob->Ob
 | .var t cs=>.var t (cs.map (C.rg f))
 | .row t sz els g m=>.row t sz els (g.rg f) m
 | .rown t sz els g=>.rown t sz els (g.rg f)
 | .abs l h=>.abs (f l) h
def Gd(f:Nat->Nat):Lab->Lab
 |[]=>[]
 |(k,t)::r=>(k,t.rg f)::Gd f r
def DB(f:Nat->Nat):Laa->Laa
 |[]=>[]
 |(k,x)::r=>(k,x.rg f)::DB f r
def Env.rg(E:Env)(f:Nat->Nat):Env:={E with T:=λl b=>∃k,f k=l/\E.T k b}
section
variable{E:Env}{f:Nat->Nat}{w:World}
theorem Pn(h:E.T l b):(E.rg f).T (f l) b:=⟨l,rfl,h⟩
theorem Zl:∀{g:Gr} {b:Nat},E.H g b->(E.rg f).H (g.rg f) b
 | .b η,_,h=>h
 | .b ζ,_,h=>h
 | .s _,_,h=>Pn h
 | .t _,_,h=>Pn h
theorem rg_gD:∀{g:Gr} {x:D} {u:Value},gD E w g x u->gD (E.rg f) w (g.rg f) x u
 | .b g,x,u,h=>bQ (λ_ _=>rfl) (λb hb=>Zl (g:=.b g) hb) x u h
 | .s l,x,u,h=>bQ (λ_ _=>rfl) (λb hb=>Pn hb) x u h
 | .t l,x,u,h=>h.keep (λ_ _=>rfl) λb hb=>Pn hb
theorem rg_G:∀{g:Gr},uf E w els b g->uf (E.rg f) w els b (g.rg f)
 | .b _,_=>trivial
 | .s l,h=>h.keep rfl (λ_ _=>rfl) λk hk=>Pn hk
 | .t l,h=>h.keep rfl (λ_ _=>rfl) λk hk=>Pn hk
theorem rg_C:∀{c:C} {u:Value},cvC E w c u->cvC (E.rg f) w (c.rg f) u
 | .d g x,u,h=>rg_gD h
 | .q g y j,u,⟨b,k,hu,hb,h⟩=>⟨b,k,hu,Zl hb,rdL_mono (λ_ _=>rfl) (λb hb=>Zl hb) y b k hb h⟩
 | .r l x,u,h=>bQ (λ_ _=>rfl) (λb hb=>Pn hb) x u h
 | .w ..,_,h=>h
 | .s ..,_,h=>h
 | .p ..,_,h=>h
 | .e ..,_,h=>h
 | .fn ..,_,h=>h
 | .nil,_,h=>h
 | .any,_,h=>h
 | .z ..,_,h=>h
 | .zq ..,_,h=>h
 | .wn ..,_,h=>h
theorem Zk:∀{cs:List C} {us:Lae},CV E w cs us->CV (E.rg f) w (cs.map (C.rg f)) us
 |[],[],_=>trivial
 |_::_,_::_,h=>⟨rg_C h.1,Zk h.2⟩
 |[],_::_,h=>h.elim
 |_::_,[],h=>h.elim
theorem rg_V(h:cvV E w v u):cvV (E.rg f) w (v.rg f) u:=by
 cases v with
 |c c=>exact rg_C h
 |agg cs=>obtain⟨arr,hu,h⟩:=h;exact⟨arr,hu,Zk h⟩
theorem rg_VV:∀{cs:List V} {us:Lae},VV E w cs us->VV (E.rg f) w (cs.map (V.rg f)) us
 |[],[],_=>trivial
 |_::_,_::_,h=>⟨rg_V h.1,rg_VV h.2⟩
 |[],_::_,h=>h.elim
 |_::_,[],h=>h.elim
theorem rg_Tt{t:T}(h:cvT E w t u):cvT (E.rg f) w (t.rg f) u:=by
 cases t with
 |v v=>exact rg_V h
 |tup ts=>obtain⟨arr,hu,h⟩:=h;exact⟨arr,hu,rg_VV h⟩
 |any=>trivial
theorem rg_O{o:Nat}{ob:Ob}(h:cN E w o ob):cN (E.rg f) w o (ob.rg f):=by
 cases ob with
 |var ty cs=>obtain⟨b,c,arr,hr,hh,hc,hF⟩:=h;exact⟨b,c,arr,hr,hh,Zk hc,hF⟩
 |row ty sz els g m=>
  obtain⟨b,c,arr,hr,h1,h2,h3,h4,h5,h6,h7,h8,h9⟩:=h
  refine⟨b,c,arr,hr,h1,h2,h3,h4,h5,bP (λ_ _=>rfl) (λb hb=>Zl hb) rfl _ _ h6,h7,λhm=>⟨(h8 hm).1,λhg=>(h8 hm).2 ?_⟩,rg_G h9⟩
  cases g<;>simp_all [Gr.rg]
 |rown ty sz els g=>
  rcases h with h|⟨h0,b,c,arr,hr,h1,h2,h3,h4,h5,h6,h7,h8⟩
  .exact .inl h
  exact .inr ⟨h0,b,c,arr,hr,h1,h2,h3,h4,h5,bP (λ_ _=>rfl) (λb hb=>Zl hb) rfl _ _ h6,h7,rg_G h8⟩
 |abs l y=>
  rcases h with h|⟨h0,b,c,hr,h1,h2⟩
  .exact .inl h
  exact .inr ⟨h0,b,c,hr,y.st b c _ _ w w h1 (λk hk=>Pn hk) rfl (λ_ _=>rfl),h2⟩
end
theorem LP{f:Nat->Nat}:∀(sl:Lab) (k:Nat),gt (Gd f sl) k=(gt sl k).rg f
 |[],k=>rfl
 |(j,t)::r,k=>by
  simp only[Gd,gt]
  cases fW j k
  .exact LP r k
  rfl
theorem LO{f:Nat->Nat}:∀(ob:Laa) (k:Nat),go (DB f ob) k=(go ob k).map (Ob.rg f)
 |[],k=>rfl
 |(j,t)::r,k=>by
  simp only[DB,go]
  cases fW j k
  .exact LO r k
  rfl
theorem T4{f:Nat->Nat}(s:Ba cx E w):Ba cx (E.rg f) w:=
 ⟨λl b ⟨k,_,h⟩=>s.tb k b h,λl l' b ⟨k,h1,h2⟩ ⟨k',h1',h2'⟩=>by have:=s.tt k k' b h2 h2';grind,s.zc,s.zs,s.ze⟩
def mg(a o k:Nat):Nat:=bif fW k a then o else k
theorem EM{E':Env}(x:eP q E w E' w){o:Nat}{ob:Ob}(ho:o≠q)(h1:ob.hasO q=η)(hF:∀b c,E.r o=ς (b,c)->¬E.F b->¬E'.F b)(h:cN E w o ob):cN E' w o ob:=by
 cases ob with
 |var ty cs=>
  obtain⟨b,c,arr,hr,hh',hc,hf⟩:=h
  exact⟨b,c,arr,x.r _ _ ho hr,hh',Lf x h1 hc,hF b c hr hf⟩
 |row ty sz els g m=>
  obtain⟨b,c,arr,hr,hh',a1,a2,a3,a4,a5,a6,a7⟩:=h
  exact⟨b,c,arr,x.r _ _ ho hr,hh',a1,a2,a3,a4,bP (x.hp g) (x.HH g) rfl _ _ a5,λhm=>hF b c hr (a6 hm),λhm=>⟨x.H η b (a7.1 hm).1,λhg=>x.H ζ b ((a7.1 hm).2 hg)⟩,qY x rfl a7.2⟩
 |rown ty sz els g=>
  rcases h with⟨h0,h1⟩|⟨h0,b,c,arr,hr,hh',a1,a2,a3,a4,a5,a6⟩
  .exact .inl ⟨(x.n o ho).2 h0,h1⟩
  exact .inr ⟨λh=>h0 ((x.n o ho).1 h),b,c,arr,x.r _ _ ho hr,hh',a1,a2,a3,a4,bP (x.hp g) (x.HH g) rfl _ _ a5,hF b c hr a6.1,qY x rfl a6.2⟩
 |abs j y=>
  rcases h with⟨h0,h1⟩|⟨h0,b,c,hr,a1,a2⟩
  .exact .inl ⟨(x.n o ho).2 h0,h1⟩
  exact .inr ⟨λh=>h0 ((x.n o ho).1 h),b,c,x.r _ _ ho hr,y.st _ _ _ _ _ _ a1 (λk hk=>(x.T j k hk).1) rfl (λ_ _=>rfl),hF b c hr a2⟩
theorem trAny{o:Nat}{E':Env}(hk:eP o E w E' w){c:C}(hc:cvC E w c u):cvC E' w (bif c.has o then .any else c) u:=by
 cases h:c.has o
 .exact CE hk h hc
 trivial
def Z5(o:Nat)(x:D)(g:Nat)(k:Nat):C->Option (C×Lac)
 | .wn l n=>match fW l o with
  |true=>ς (.d (.t g) x,[(k,n)])
  |false=>ς (.wn l n,[])
 |c=>ς (bif c.has o then .any else c,[])
def K8(o:Nat)(x:D)(g:Nat)(k:Nat):List C->Option (List C×Lac)
 |[]=>ς ([],[])
 |c::cs=>match Z5 o x g k c,K8 o x g k cs with
  |some (x,e),ς (xs,es)=>ς (x::xs,e++es)
  |_,_=>ξ
def Z7(o:Nat)(x:D)(g:Nat)(k:Nat):V->Option (V×Lac)
 | .c c=>match Z5 o x g k c with
  |some (x,e)=>ς (.c x,e)
  |none=>ξ
 | .agg cs=>match K8 o x g k cs with
  |some (x,e)=>ς (.agg x,e)
  |none=>ξ
def PM(o:Nat)(x:D)(g:Nat)(k:Nat):List V->Option (List V×Lac)
 |[]=>ς ([],[])
 |c::cs=>match Z7 o x g k c,PM o x g k cs with
  |some (x,e),ς (xs,es)=>ς (x::xs,e++es)
  |_,_=>ξ
def Z6(o:Nat)(x:D)(g:Nat)(k:Nat):T->Option (T×Lac)
 | .v v=>match Z7 o x g k v with
  |some (x,e)=>ς (.v x,e)
  |none=>ξ
 | .tup vs=>match PM o x g k vs with
  |some (x,e)=>ς (.tup x,e)
  |none=>ξ
 | .any=>ς (.any,[])
def V1(o:Nat)(x:D)(g:Nat)(k:Nat):Lab->Option (Lab×Lac)
 |[]=>ς ([],[])
 |(j,t)::r=>match Z6 o x g k t,V1 o x g k r with
  |some (x,e),ς (xs,es)=>ς ((j,x)::xs,e++es)
  |_,_=>ξ
def yM(o:Nat)(x:D)(g:Nat)(k:Nat):Laa->Option (Laa×Lac)
 |[]=>ς ([],[])
 |(j,.var t cs)::r=>match fW j o with
  |true=>ξ
  |false=>match K8 o x g k cs,yM o x g k r with
   |some (x,e),ς (xs,es)=>ς ((j,.var t x)::xs,e++es)
   |_,_=>ξ
 |(j,.row t sz els gg m)::r=>match yM o x g k r with
  |some (xs,es)=>match fW j o with
   |true=>ς (xs,es)
   |false=>ς ((j,.row t sz els gg m)::xs,es)
  |none=>ξ
 |(j,.rown t sz els gg)::r=>match yM o x g k r with
  |some (xs,es)=>match fW j o with
   |true=>ς (xs,es)
   |false=>ς ((j,.rown t sz els gg)::xs,es)
  |none=>ξ
 |(j,.abs i y)::r=>match yM o x g k r with
  |some (xs,es)=>match fW j o with
   |true=>ς (xs,es)
   |false=>ς ((j,.abs i y)::xs,es)
  |none=>ξ
section
variable{E E':Env}{w:World}{o k:Nat}{x:D}{g:Nat}(hd:∀u,cvC E w (.wn o k) u->cvC E' w (.d (.t g) x) u)(hk:eP o E w E' w)
include hd hk
theorem Ua{c c':C}{e:Lac}(h:Z5 o x g k c=ς (c',e))(he:Eqs e)(hc:cvC E w c u):cvC E' w c' u:=by
 cases c with
 |wn l n=>
  simp only[Z5] at h
  split at h
  .rename_i hb
   have:=aat hb
   subst this
   simp at h;obtain⟨rfl,rfl⟩:=h
   have hn:k=n:=he.1
   simp_all
  rename_i hb
  simp at h;obtain⟨rfl,rfl⟩:=h;exact CE hk hb hc
 |_=>
  simp only[Z5,Option.some.injEq,Prod.mk.injEq] at h;obtain⟨rfl,rfl⟩:=h
  exact trAny hk hc
theorem Jk:∀{cs cs':List C} {e:Lac} {us:Lae},K8 o x g k cs=ς (cs',e)->Eqs e->CV E w cs us->CV E' w cs' us
 |[],cs',e,us,h,_,hc=>by
  simp[K8] at h;obtain⟨rfl,rfl⟩:=h
  cases us with
  |nil=>trivial
  |cons _ _=>exact hc.elim
 |c::cs,cs',e,us,h,he,hc=>by
  cases us with
  |nil=>exact hc.elim
  |cons u us=>
   simp only[K8] at h
   split at h
   .rename_i h1 h2
    simp at h;obtain⟨rfl,rfl⟩:=h
    obtain⟨k1,k2⟩:=dE he
    exact⟨Ua hd hk h1 k1 hc.1,Jk h2 k2 hc.2⟩
   cases h
theorem Ub{v':V}{e:Lac}(h:Z7 o x g k v=ς (v',e))(he:Eqs e)(hv:cvV E w v u):cvV E' w v' u:=by
 cases v with
 |c c=>
  simp only[Z7] at h
  split at h
  .rename_i h1;simp at h;obtain⟨rfl,rfl⟩:=h;exact Ua hd hk h1 he hv
  cases h
 |agg cs=>
  simp only[Z7] at h
  split at h
  .rename_i h1;simp at h;obtain⟨rfl,rfl⟩:=h;obtain⟨arr,hu,hc⟩:=hv;exact⟨arr,hu,Jk hd hk h1 he hc⟩
  cases h
theorem PN:∀{cs cs':List V} {e:Lac} {us:Lae},PM o x g k cs=ς (cs',e)->Eqs e->VV E w cs us->VV E' w cs' us
 |[],cs',e,us,h,_,hc=>by
  simp[PM] at h;obtain⟨rfl,rfl⟩:=h
  cases us with
  |nil=>trivial
  |cons _ _=>exact hc.elim
 |c::cs,cs',e,us,h,he,hc=>by
  cases us with
  |nil=>exact hc.elim
  |cons u us=>
   simp only[PM] at h
   split at h
   .rename_i h1 h2
    simp at h;obtain⟨rfl,rfl⟩:=h
    obtain⟨k1,k2⟩:=dE he
    exact⟨Ub hd hk h1 k1 hc.1,PN h2 k2 hc.2⟩
   cases h
theorem ac0{v v':T}{e:Lac}(h:Z6 o x g k v=ς (v',e))(he:Eqs e)(hv:cvT E w v u):cvT E' w v' u:=by
 cases v with
 |v v=>
  simp only[Z6] at h
  split at h
  .rename_i h1;simp at h;obtain⟨rfl,rfl⟩:=h;exact Ub hd hk h1 he hv
  cases h
 |tup vs=>
  simp only[Z6] at h
  split at h
  .rename_i h1;simp at h;obtain⟨rfl,rfl⟩:=h;obtain⟨arr,hu,hc⟩:=hv;exact⟨arr,hu,PN hd hk h1 he hc⟩
  cases h
 |any=>simp[Z6] at h;obtain⟨rfl,rfl⟩:=h;trivial
theorem M2{j:Nat}{u:Value}:∀{sl sl':Lab} {e:Lac},V1 o x g k sl=ς (sl',e)->Eqs e->cvT E w (gt sl j) u->cvT E' w (gt sl' j) u
 |[],sl',e,h,_,_=>by simp[V1] at h;obtain⟨rfl,rfl⟩:=h;trivial
 |(i,t)::r,sl',e,h,he,hc=>by
  simp only[V1] at h
  split at h
  .rename_i h1 h2
   simp at h;obtain⟨rfl,rfl⟩:=h
   obtain⟨k1,k2⟩:=dE he
   by_cases hj:i=j
   .subst hj;rw[da] at hc ⊢;exact ac0 hd hk h1 k1 hc
   rw[ck _ _ hj] at hc ⊢;exact M2 h2 k2 hc
  cases h
theorem sT{l:Nat}{y:Ob}(hlo:l≠o)(hF:∀b c,E.r l=ς (b,c)->¬E.F b->¬E'.F b):∀{ob ob':Laa} {e:Lac},yM o x g k ob=ς (ob',e)->Eqs e->go ob' l=ς y->(∀y,go ob l=ς y->cN E w l y)->cN E' w l y
 |[],ob',e,h,_,hy,_=>by simp[yM] at h;obtain⟨rfl,rfl⟩:=h;cases hy
 |(i,.var t cs)::r,ob',e,h,he,hy,hb=>by
  simp only[yM] at h
  split at h
  .cases h
  split at h
  .rename_i a1 a2
   simp at h;obtain⟨rfl,rfl⟩:=h
   obtain⟨k1,k2⟩:=dE he
   by_cases hi:i=l
   .subst hi
    rw[bX] at hy;cases hy
    obtain⟨b,c,arr,q1,q2,q3,q4⟩:=hb _ (bX _ _ _)
    exact⟨b,c,arr,hk.r _ _ hlo q1,q2,Jk hd hk a1 k1 q3,hF b c q1 q4⟩
   rw[bg _ _ hi] at hy
   exact sT hlo hF a2 k2 hy (λy hy=>hb y (by rw[bg _ _ hi];exact hy))
  cases h
 |(i,.row t sz els gg m)::r,ob',e,h,he,hy,hb=>by
  simp only[yM] at h
  split at h
  .rename_i a2
   split at h
   .rename_i hb2
    simp at h;obtain⟨rfl,rfl⟩:=h
    have hio:=aat hb2
    exact sT hlo hF a2 he hy (λy hy=>hb y (by rw[bg _ _ (λe=>hlo (e.symm.trans hio))];exact hy))
   simp at h;obtain⟨rfl,rfl⟩:=h
   by_cases hi:i=l
   .subst hi
    rw[bX] at hy;cases hy
    exact EM hk hlo rfl (λb c hr=>hF b c hr) (hb _ (bX _ _ _))
   rw[bg _ _ hi] at hy
   exact sT hlo hF a2 he hy (λy hy=>hb y (by rw[bg _ _ hi];exact hy))
  cases h
 |(i,.rown t sz els gg)::r,ob',e,h,he,hy,hb=>by
  simp only[yM] at h
  split at h
  .rename_i a2
   split at h
   .rename_i hb2
    simp at h;obtain⟨rfl,rfl⟩:=h
    have hio:=aat hb2
    exact sT hlo hF a2 he hy (λy hy=>hb y (by rw[bg _ _ (λe=>hlo (e.symm.trans hio))];exact hy))
   simp at h;obtain⟨rfl,rfl⟩:=h
   by_cases hi:i=l
   .subst hi
    rw[bX] at hy;cases hy
    exact EM hk hlo rfl (λb c hr=>hF b c hr) (hb _ (bX _ _ _))
   rw[bg _ _ hi] at hy
   exact sT hlo hF a2 he hy (λy hy=>hb y (by rw[bg _ _ hi];exact hy))
  cases h
 |(i,.abs _ _)::r,ob',e,h,he,hy,hb=>by
  simp only[yM] at h
  split at h
  .rename_i a2
   split at h
   .rename_i hb2
    simp at h;obtain⟨rfl,rfl⟩:=h
    have hio:=aat hb2
    exact sT hlo hF a2 he hy (λy hy=>hb y (by rw[bg _ _ (λe=>hlo (e.symm.trans hio))];exact hy))
   simp at h;obtain⟨rfl,rfl⟩:=h
   by_cases hi:i=l
   .subst hi
    rw[bX] at hy;cases hy
    exact EM hk hlo rfl (λb c hr=>hF b c hr) (hb _ (bX _ _ _))
   rw[bg _ _ hi] at hy
   exact sT hlo hF a2 he hy (λy hy=>hb y (by rw[bg _ _ hi];exact hy))
  cases h
end
theorem mr{o k:Nat}{x:D}{g:Nat}:∀{ob ob':Laa} {e:Lac},yM o x g k ob=ς (ob',e)->go ob' o=ξ
 |[],ob',e,h=>by simp[yM] at h;obtain⟨rfl,rfl⟩:=h;rfl
 |(i,.var t cs)::r,ob',e,h=>by
  simp only[yM] at h
  split at h
  .cases h
  rename_i hb
  split at h
  .rename_i a1 a2
   simp at h;obtain⟨rfl,rfl⟩:=h
   rw[bg _ _ (hP hb)];exact mr a2
  cases h
 |(i,.row t sz els gg m)::r,ob',e,h=>by
  simp only[yM] at h
  split at h
  .rename_i a2
   split at h
   .simp at h;obtain⟨rfl,rfl⟩:=h;exact mr a2
   rename_i hb
   simp at h;obtain⟨rfl,rfl⟩:=h
   rw[bg _ _ (hP hb)];exact mr a2
  cases h
 |(i,.rown t sz els gg)::r,ob',e,h=>by
  simp only[yM] at h
  split at h
  .rename_i a2
   split at h
   .simp at h;obtain⟨rfl,rfl⟩:=h;exact mr a2
   rename_i hb
   simp at h;obtain⟨rfl,rfl⟩:=h
   rw[bg _ _ (hP hb)];exact mr a2
  cases h
 |(i,.abs _ _)::r,ob',e,h=>by
  simp only[yM] at h
  split at h
  .rename_i a2
   split at h
   .simp at h;obtain⟨rfl,rfl⟩:=h;exact mr a2
   rename_i hb
   simp at h;obtain⟨rfl,rfl⟩:=h
   rw[bg _ _ (hP hb)];exact mr a2
  cases h
def scB:List D->Bool
 |[]=>ζ
 | .i _ _::xs| .b _::xs| .str _::xs| .l []::xs=>scB xs
 |_=>η
theorem Z8{w:World}{F:Nat->Prop}{T:Nat->Prop}:∀{es:List D} {d:D} {u:Value},scB es=ζ->d∈es->rdD w F d u->fw w T d u
 |e::es,d,u,h,hm,hu=>by
  rcases aa2.1 hm with rfl|hm
  .cases d with
   |i k n=>rw[rdD] at hu;rw[fw];exact hu
   |b n=>rw[rdD] at hu;rw[fw];exact hu
   |str n=>rw[rdD] at hu;rw[fw];exact hu
   |l xs=>
    cases xs with
    |nil=>rw[rdD] at hu;rw[fw];obtain⟨A,c,h1,h2,_⟩:=hu;exact⟨A,c,h1,h2,.inl rfl⟩
    |cons _ _=>simp[scB] at h
   |k A n c=>simp[scB] at h
  refine Z8 (es:=es) ?_ hm hu
  cases e with
  |l xs=>
   cases xs with
   |nil=>exact h
   |cons _ _=>simp[scB] at h
  |_=>simp_all [scB]
theorem Pe{w:World}{F:Nat->Prop}:∀{xs:Lad} {b k:Nat},rdLL w F xs b k->rdL w F xs.flatten b k
 |[],b,k,_=>by simp[rdL]
 |e::es,b,k,h=>by
  rw[rdLL] at h
  refine mG λj d hj=>?_
  rw[adr] at hj
  by_cases hl:j<e.length
  .rw[aa8 hl] at hj;exact iz h.1 hj
  rw[aa3 oaa] at hj
  have:=iz (Pe h.2) hj
  rwa [show k+e.length+(j-e.length)=k+j by omega] at this
theorem dJ.flat{F T:Nat->Prop}(hs:∀e∈els,scB e=ζ)(h:rdLL w F els b 0):dJ w T els b:=by
 refine dJ.iff.2 ⟨λ_ _=>False,⟨λ_ _ h=>h.elim,λ_ _ _ h=>h.elim⟩,λj d hj=>?_⟩
 obtain⟨u,hc,hu⟩:=iz (Pe h) hj
 rw[aa5] at hc
 obtain⟨e,he,hd⟩:=List.mem_flatten.1 (v0 hj)
 exact⟨u,hc,Z8 (hs e he) hd hu⟩
theorem fw.nil{T:Nat->Prop}:fw w T (.l []) (.slice ξ 0 0):=by rw[fw];exact⟨ξ,0,rfl,abk _,.inl rfl⟩
def Z9(l:Nat):Gr->Lad->Prop
 | .s n,els| .t n,els=>n=l\/∀e∈els,scB e=ζ
 | .b _,els=>∀e∈els,scB e=ζ
theorem RR{ty:Nat}{ob:Laa}{e1 e2:Lac}(o l:Nat)(hrv:rsv o=false:=by exact rfl)(hl:nlt l nx=true:=by exact rfl)(ho:go ob o=ς (.rown ty sz els g):=by exact rfl)(hs:V1 o (.l els) l els.length sl=ς (sl',e1):=by exact rfl)(hb:yM o (.l els) l els.length ob=ς (ob',e2):=by exact rfl)(h1:Eqs e1:=by repeat (first|exact θ|refine⟨by first|rfl|simp,?_⟩))(h2:Eqs e2:=by repeat (first|exact θ|refine⟨by first|rfl|simp,?_⟩))(hg:Z9 l g els):
 cO N ⟨sl,ob,nx⟩ ⟨sl',ob',nx⟩:=by
 intro cx E a w hR
 rcases hR.obs o _ ho with⟨hE,hels⟩|⟨hE,b,c,arr,hr,hh,ha,hlc,hmx,hes,hrd,hF,hG⟩
 .have hk:eP o E w E w:=⟨λ_ _ _ h=>h,λ_ _ h=>h,λ_ _ _=>rfl,λ_ _ h=>⟨h,rfl⟩,λ_ h=>⟨h,.refl _ _⟩,λ_ _=>Iff.rfl⟩
  have hd:∀u,cvC E w (.wn o els.length) u->cvC E w (.d (.t l) (.l els)) u:=by
   intro u hu
   rcases hu with⟨_,_,rfl⟩|⟨hu,_⟩
   .subst hels;exact fw.nil
   exact(hu hE).elim
  refine⟨E,hR.ok,hR.dom,λj y hj=>?_,λj=>M2 hd hk hs h1 (hR.sl j),hR.dfr,hR.size,hR.td⟩
  by_cases e:j=o
  .subst e;rw[mr hb] at hj;cases hj
  exact sT hd hk e (λ_ _ _ h=>h) hb h2 hj (λy hy=>hR.obs j y hy)
 obtain⟨hb1,hb2⟩:=hR.ok.rb o b c hr
 have hb3:cx.In b:=hb2.resolve_right (λh=>by simp_all)
 let E':Env:=⟨λk=>if k=o then ξ else E.r k,E.F,E.G,λj k=>E.T j k\/(j=l/\k=b),E.Z,E.n⟩
 have hr':∀k x,E'.r k=ς x->k≠o/\E.r k=ς x:=λk x h=>by
  by_cases e:k=o
  .simp[E',e] at h
  simp[E',e] at h;exact⟨e,h⟩
 have hk:eP o E w E' w:=⟨λk x h1 h=>by show(if k=o then ξ else E.r k)=ς x;rw[if_neg h1];exact h,λg b h=>by cases g<;>exact h,λ_ _ _=>rfl,λ_ _ h=>⟨.inl h,rfl⟩,λ_ h=>⟨h,.refl _ _⟩,λ_ _=>Iff.rfl⟩
 have hT:dJ w (E.T l) els b:=by
  cases g with
  |b g=>exact dJ.flat hg hrd
  |s n=>
   rcases hg with rfl|hg
   .exact hG
   exact dJ.flat hg hrd
  |t n=>
   rcases hg with rfl|hg
   .exact hG
   exact dJ.flat hg hrd
 have hd:∀u,cvC E w (.wn o els.length) u->cvC E' w (.d (.t l) (.l els)) u:=by
  intro u hu
  rcases hu with⟨hu,_⟩|⟨_,b',c',hr',rfl⟩
  .exact(hE hu).elim
  rw[hr] at hr';cases hr'
  exact(hT.tree hlc ⟨arr,ty,sz,hh,ha,hmx,hes⟩).keep (λ_ _=>rfl) (λk hk=>hk.imp id λe=>⟨rfl,e⟩)
 have hT':∀j k,E'.T j k->E.T j k\/(j=l/\k=b):=λ_ _ h=>h
 have hnT:∀j,¬E.T j b:=λj h=>(hR.ok.sf.tb j b h).2.2.1 o c hr
 have ok:=hR.ok
 refine⟨E',⟨ok.fb,ok.gf,ok.gn,λk b c h=>ok.rb k b c (hr' k _ h).2,λk k' b c c' h h'=>ok.inj k k' b c c' (hr' k _ h).2 (hr' k' _ h').2,ok.os,ok.tape,ok.output,ok.size,ok.block,λk x h h'=>ok.pin k x h (hr' k _ h').2,ok.ff,ok.gc,
  ⟨λj k h=>?_,λj j' k h h'=>?_,λk h=>?_,ok.sf.zs,ok.sf.ze⟩⟩,λk x h=>hR.dom k x (hr' k x h).2,λj y hj=>?_,λj=>M2 hd hk hs h1 (hR.sl j),hR.dfr,hR.size,λj k h=>?_⟩
 .rcases h with h|⟨rfl,rfl⟩
  .obtain⟨q1,q2,q3,q4⟩:=ok.sf.tb j k h
   exact⟨q1,q2,λi c h=>q3 i c (hr' i _ h).2,q4⟩
  exact⟨⟨hb1,hb3⟩,hF,λi c' h=>(hr' i _ h).1 (ok.inj _ _ _ _ _ (hr' i _ h).2 hr),.mk hh⟩
 .rcases h with h|⟨rfl,rfl⟩
  .rcases h' with h'|⟨rfl,rfl⟩
   .exact ok.sf.tt _ _ _ h h'
   exact(hnT _ h).elim
  rcases h' with h'|⟨rfl,_⟩
  .exact(hnT _ h').elim
  rfl
 .obtain⟨q1,q2,q3,q4⟩:=ok.sf.zc k h
  exact⟨q1,q2,λi c h=>q3 i c (hr' i _ h).2,q4⟩
 .by_cases e:j=o
  .subst e;rw[mr hb] at hj;cases hj
  exact sT hd hk e (λ_ _ _ h=>h) hb h2 hj (λy hy=>hR.obs j y hy)
 rcases h with h|⟨rfl,_⟩
 .exact hR.td j k h
 exact bV hl
open Go.RowKit
def tcD:C->Option (D×Option Nat)
 | .d (.t l) (.l xs)=>ς (.l xs,ς l)
 | .d _ (.i k n)=>ς (.i k n,ξ)
 | .d _ (.b b)=>ς (.b b,ξ)
 | .d _ (.str s)=>ς (.str s,ξ)
 | .d _ (.l [])=>ς (.l [],ξ)
 | .nil=>ς (.l [],ξ)
 |_=>ξ
def PJ:List C->Option (List D×List (Option Nat))
 |[]=>ς ([],[])
 |c::cs=>match tcD c,PJ cs with
  |some (x,g),ς (xs,gs)=>ς (x::xs,g::gs)
  |_,_=>ξ
def tvD:V->Option (List D×List (Option Nat))
 | .c c=>match tcD c with
  |some (x,g)=>ς ([x],[g])
  |none=>ξ
 | .agg cs=>PJ cs
def TL(E:Env):Option Nat->Nat->Prop
 |none,_=>False
 |some l,b=>E.T l b
theorem ZX{c:C}{x:D}{g:Option Nat}(h:tcD c=ς (x,g))(hc:cvC E w c u):fw w (TL E g) x u/\u.oneCell'=ζ/\u.cells= #[u]:=by
 cases c with
 |d g' x'=>
  refine⟨?_,kj (mw hc),p6 (mw hc)⟩
  have hr:=mw hc
  cases x' with
  |i k n=>cases g'<;>(simp[tcD] at h;obtain⟨rfl,rfl⟩:=h;rw[rdD] at hr;rw[fw];exact hr)
  |b n=>cases g'<;>(simp[tcD] at h;obtain⟨rfl,rfl⟩:=h;rw[rdD] at hr;rw[fw];exact hr)
  |str n=>cases g'<;>(simp[tcD] at h;obtain⟨rfl,rfl⟩:=h;rw[rdD] at hr;rw[fw];exact hr)
  |k A n c=>cases g'<;>simp[tcD] at h
  |l xs=>
   cases g' with
   |t l=>simp[tcD] at h;obtain⟨rfl,rfl⟩:=h;exact hc
   |_=>
    cases xs with
    |nil=>simp[tcD] at h;obtain⟨rfl,rfl⟩:=h;rw[rdD] at hr;rw[fw];obtain⟨A,c,h1,h2,_⟩:=hr;exact⟨A,c,h1,h2,.inl rfl⟩
    |cons _ _=>simp[tcD] at h
 |nil=>
  simp[tcD] at h
  obtain⟨rfl,rfl⟩:=h
  have hu:u= .slice ξ 0 0:=hc
  subst hu
  exact⟨fw.nil,rfl,rfl⟩
 |_=>simp[tcD] at h
theorem T7{E:Env}{w:World}:∀{cs:List C} {xs:List D} {gs:List (Option Nat)} {us:Lae},PJ cs=ς (xs,gs)->CV E w cs us->
 xs.length=us.length/\(∀u∈us,u.oneCell'=ζ)/\∀(j:Nat) (xd:D),xs[j]?=ς xd->∃u g,us[j]?=ς u/\gs[j]?=ς g/\fw w (TL E g) xd u
 |[],xs,g,us,h,hc=>by
  simp[PJ] at h;obtain⟨rfl,rfl⟩:=h
  cases us with
  |nil=>simp_all
  |cons _ _=>exact hc.elim
 |c::cs,xs,g,us,h,hc=>by
  cases us with
  |nil=>exact hc.elim
  |cons u us=>
   cases h1:tcD c with
   |none=>simp[PJ,h1] at h
   |some p=>
    obtain⟨x,g1⟩:=p
    cases h2:PJ cs with
    |none=>simp[PJ,h1,h2] at h
    |some p=>
     obtain⟨xs',g2⟩:=p
     simp[PJ,h1,h2] at h
     obtain⟨rfl,rfl⟩:=h
     obtain⟨k1,k2,k3⟩:=ZX h1 hc.1
     obtain⟨m1,m2,m3⟩:=T7 h2 hc.2
     refine⟨by simp[m1],by simp_all,λj xd hj=>?_⟩
     cases j with
     |zero=>simp at hj;subst hj;exact⟨u,g1,rfl,rfl,k1⟩
     |succ j=>
      obtain⟨v,g,n1,n2,n3⟩:=m3 j xd (by simpa using hj)
      exact⟨v,g,by simpa using n1,by simpa using n2,n3⟩
theorem tvD_ok{xs:List D}{gs:List (Option Nat)}(h:tvD v=ς (xs,gs))(hv:cvV E w v u):
 u.cells.size=xs.length/\(∀c∈u.cells.toList,c.oneCell'=ζ)/\∀(j:Nat) (xd:D),xs[j]?=ς xd->∃c g,u.cells[j]?=ς c/\gs[j]?=ς g/\fw w (TL E g) xd c:=by
 cases v with
 |c c=>
  cases h1:tcD c with
  |none=>simp[tvD,h1] at h
  |some p=>
   obtain⟨x,g1⟩:=p
   simp[tvD,h1] at h
   obtain⟨rfl,rfl⟩:=h
   obtain⟨k1,k2,k3⟩:=ZX h1 hv
   refine⟨by simp[k3],by simp[k3,k2],λj xd hj=>?_⟩
   cases j with
   |zero=>simp at hj;subst hj;exact⟨u,g1,by simp[k3],rfl,k1⟩
   |succ j=>simp at hj
 |agg cs=>
  obtain⟨arr,rfl,hc⟩:=hv
  obtain⟨m1,m2,m3⟩:=T7 h hc
  refine⟨by simpa [Value.cells] using m1.symm,by simpa [Value.cells] using m2,λj xd hj=>?_⟩
  obtain⟨c,g,n1,n2,n3⟩:=m3 j xd hj
  exact⟨c,g,by simpa [Value.cells] using n1,n2,n3⟩
def CN(k:Nat):List (Option Nat)->Bool
 |[]=>η
 |none::r=>CN k r
 |some j::r=>fW k j||CN k r
def F3(l:Nat):List (Option Nat)->Bool
 |[]=>ζ
 |none::r=>F3 l r
 |some k::r=>!(fW k l)&&!(CN k r)&&F3 l r
theorem CO{k:Nat}:∀{gs:List (Option Nat)} {j:Nat},gs[j]?=ς (ς k)->CN k gs=ζ
 |[],_,h=>by simp at h
 |none::r,0,h=>by simp at h
 |none::r,j+1,h=>CO (gs:=r) (j:=j) (by simpa using h)
 |some i::r,0,h=>by simp at h;subst h;simp[CN]
 |some i::r,j+1,h=>by simp[CN,CO (gs:=r) (j:=j) (by simpa using h)]
theorem Mo{l k:Nat}:∀{gs:List (Option Nat)} {j:Nat},F3 l gs=ζ->gs[j]?=ς (ς k)->k≠l
 |[],_,_,h=>by simp at h
 |none::r,0,_,h=>by simp at h
 |none::r,j+1,h0,h=>Mo (gs:=r) (j:=j) h0 (by simpa using h)
 |some i::r,0,h0,h=>by simp at h;subst h;simp only[F3,f4,ac8] at h0;exact hP h0.1.1
 |some i::r,j+1,h0,h=>by simp only[F3,f4] at h0;exact Mo (gs:=r) (j:=j) h0.2 (by simpa using h)
theorem Mn{l k:Nat}:∀{gs:List (Option Nat)} {j j':Nat},F3 l gs=ζ->gs[j]?=ς (ς k)->gs[j']?=ς (ς k)->j=j'
 |[],_,_,_,h,_=>by simp at h
 |none::r,0,_,_,h,_=>by simp at h
 |none::r,_+1,0,_,_,h=>by simp at h
 |none::r,j+1,j'+1,h0,h,h'=>by rw[Mn (gs:=r) (j:=j) (j':=j') h0 (by simpa using h) (by simpa using h')]
 |some i::r,0,0,_,_,_=>rfl
 |some i::r,0,j'+1,h0,h,h'=>by
  simp at h;subst h
  simp only[F3,f4,ac8] at h0
  rw[CO (gs:=r) (j:=j') (by simpa using h')] at h0
  simp at h0
 |some i::r,j+1,0,h0,h,h'=>by
  simp at h';subst h'
  simp only[F3,f4,ac8] at h0
  rw[CO (gs:=r) (j:=j) (by simpa using h)] at h0
  simp at h0
 |some i::r,j+1,j'+1,h0,h,h'=>by
  simp only[F3,f4] at h0
  rw[Mn (gs:=r) (j:=j) (j':=j') h0.2 (by simpa using h) (by simpa using h')]
def mgs(gs:List (Option Nat))(l k:Nat):Nat:=bif CN k gs then l else k
theorem Ze{ob:Laa}(f:Nat->Nat)(hf:∀k,k<nx->f k<nx)(hR:Rel N cx E ⟨sl,ob,nx⟩ a w):Rel N cx (E.rg f) ⟨Gd f sl,DB f ob,nx⟩ a w:=by
 have ok:=hR.ok
 refine⟨⟨ok.fb,ok.gf,ok.gn,ok.rb,ok.inj,ok.os,ok.tape,ok.output,ok.size,ok.block,ok.pin,ok.ff,ok.gc,T4 ok.sf⟩,hR.dom,λo x h=>?_,λk=>?_,hR.dfr,hR.size,λl b ⟨k,h1,h2⟩=>by subst h1;exact hf k (hR.td k b h2)⟩
 .rw[LO] at h
  cases hg:go ob o with
  |none=>rw[hg] at h;cases h
  |some y=>rw[hg] at h;cases h;exact rg_O (hR.obs o y hg)
 rw[LP];exact rg_Tt (hR.sl k)
theorem XI{i:Nat}{el el':List D}(hes:∀e∈els,e.length=sz)(he:els[i]?=ς el)(hs:mI j ns el=ς el')(hel':el'.length=sz)(jj:Nat):
 (els.set i el').flatten[jj]?=if i*sz+j<=jj/\jj<i*sz+j+ns.length then ns[jj-(i*sz+j)]? else els.flatten[jj]?:=by
 have hil:i<els.length:=(f5.1 he).1
 have hel:el.length=sz:=hes el (v0 he)
 obtain⟨hsp,hle⟩:=qH hs
 have hes':∀e∈els.set i el',e.length=sz:=λe hm=>by
  rcases aeA hm with h|h
  .exact hes e h
  subst h;exact hel'
 by_cases hz:sz=0
 .have h1:(els.set i el').flatten=[]:=aea.1 (by rw[eF hes',hz,aeK])
  have h2:els.flatten=[]:=aea.1 (by rw[eF hes,hz,aeK])
  have h3:ns=[]:=aea.1 oaa
  rw[h1,h2,h3];simp
 have hp:0<sz:=Nat.pos_of_ne_zero hz
 obtain⟨q,r,hr,rfl⟩:∃q r,r<sz/\jj=q*sz+r:=⟨jj/sz,jj%sz,aeM _ hp,by rw[Nat.mul_comm];exact(Nat.div_add_mod jj sz).symm⟩
 rw[Hn hp hes' q r hr,Hn hp hes q r hr,List.getElem?_set]
 by_cases hq:i=q
 .subst hq
  rw[if_pos rfl,if_pos hil,he]
  simp only[Option.bind_some]
  rw[Je hs]
  by_cases hin:j<=r/\r<j+ns.length
  .rw[if_pos hin,if_pos oaa]
   congr 1;omega
  rw[if_neg hin,if_neg oaa]
 rw[if_neg hq,if_neg]
 rintro⟨k1,k2⟩
 rcases Nat.lt_or_gt_of_ne hq with h|h
 .have:(i+1)*sz<=q*sz:=adh _ h
  rw[aeu] at this
  omega
 have:(q+1)*sz<=i*sz:=adh _ h
 rw[aeu] at this
 omega
section
variable{P:Program}{N:Nat}{ty:TypeId}{ps:String}{af:Array Edge}{gd:Option (Nat×Bool)}{x y:Operand}{sl:Lab}{ob:Laa}{nx:Nat}
theorem Vq{o i:Nat}{rt:TypeId}{el el':List D}{gs:List (Option Nat)}[ht:TyN P t n](hx:opT sl x= .v (.c (.e o sz i j)))(hy:opT sl y= .v v)(ho:go ob o=ς (.row rt sz els (.s l) ζ))(hv:tvD v=ς (ns,gs))(hg:F3 l gs=ζ)(hl:nlt l nx=ζ)(hn:fW ns.length n=ζ)(he:els[i]?=ς el)(hs:mI j ns el=ς el'):
 AWO P N ⟨ξ,.store t x y,ty,ps,af,gd⟩ ⟨sl,ob,nx⟩ ⟨Gd (mgs gs l) sl,(o,.row rt sz (els.set i el') (.s l) ζ)::DB (mgs gs l) ob,nx⟩:=by
 intro cx E a w hR
 have h1:=hR.op x;rw[hx] at h1
 have h2:=hR.op y;rw[hy] at h2
 obtain⟨b,c,hr,hu⟩:=h1
 obtain⟨b',c',arr,hr',hh,ha,hlc,hmx,hes,hrd,hFm,_,hT⟩:=hR.obs o _ ho
 rw[hr] at hr';cases hr'
 have hF:=hFm rfl
 obtain⟨v1,v2,v3⟩:=tvD_ok hv h2
 have hnn:=aat hn
 have hil:i<els.length:=(f5.1 he).1
 have hel:el.length=sz:=hes el (v0 he)
 obtain⟨hsp,hle⟩:=qH hs
 have hel':el'.length=sz:=by rw[hsp];simp;omega
 have hbound:i*sz+j+n<=arr.size:=by
  rw[ha]
  calc i*sz+j+n<=i*sz+sz:=by omega
   _=(i+1)*sz:=by grind
   _<=c*sz:=adh _ oaa
 have hrun:=vu (P:=P) (t:=t) (n:=n) (k:=i*sz+j) oaa v2 hh hbound
 unfold Oper.wp
 simp only[execOp,hu,Sem.run_bind,hrun,Result.andThen_ok,Sem.run_pure,Oper.upon_skip,Act.put]
 have hes':∀e∈els.set i el',e.length=sz:=λe hm=>by
  rcases aeA hm with h|h
  .exact hes e h
  subst h;exact hel'
 have hf:∀k,k<nx->mgs gs l k<nx:=λk hk=>by
  unfold mgs
  cases CN k gs
  .exact hk
  exact bV hl
 have hR1:=Ze (mgs gs l) hf hR
 have hfl:mgs gs l l=l:=by unfold mgs;cases CN l gs<;>rfl
 have hTl:∀b,E.T l b->(E.rg (mgs gs l)).T l b:=λb h=>⟨l,hfl,h⟩
 have hlen:(a.eval y).cells.toList.length=n:=by simp;omega
 have hTr:dJ (w.setRow b (arr.toList.take (i*sz+j)++(a.eval y).cells.toList++arr.toList.drop (i*sz+j+n)).toArray) ((E.rg (mgs gs l)).T l) (els.set i el') b:=by
  obtain⟨Q,⟨q1,q2⟩,q3⟩:=dJ.iff.1 hT
  have hnb:∀k,¬E.T k b:=λk h=>(hR.ok.sf.tb k b h).2.2.1 o c hr
  refine dJ.iff.2 ⟨λk=>if i*sz+j<=k/\k<i*sz+j+ns.length then λb'=>∃g,gs[k-(i*sz+j)]?=ς g/\TL E g b' else Q k,⟨λk b' hk=>?_,λk k' b' hk hk'=>?_⟩,λjj d hd=>?_⟩
  .by_cases hin:i*sz+j<=k/\k<i*sz+j+ns.length
   .simp only[if_pos hin] at hk
    obtain⟨g,hg1,hg2⟩:=hk
    cases g with
    |none=>exact hg2.elim
    |some m=>
     refine⟨⟨m,?_,hg2⟩,λe=>hnb m (e▸hg2)⟩
     unfold mgs;rw[CO hg1];rfl
   simp only[if_neg hin] at hk
   exact⟨hTl _ (q1 k b' hk).1,(q1 k b' hk).2⟩
  .by_cases hin:i*sz+j<=k/\k<i*sz+j+ns.length
   .simp only[if_pos hin] at hk
    obtain⟨g,hg1,hg2⟩:=hk
    cases g with
    |none=>exact hg2.elim
    |some m=>
     by_cases hin':i*sz+j<=k'/\k'<i*sz+j+ns.length
     .simp only[if_pos hin'] at hk'
      obtain⟨g',hg1',hg2'⟩:=hk'
      cases g' with
      |none=>exact hg2'.elim
      |some m'=>
       have:=hR.ok.sf.tt _ _ _ hg2 hg2';subst this
       have:=Mn hg hg1 hg1'
       omega
     simp only[if_neg hin'] at hk'
     exact(Mo hg hg1 (hR.ok.sf.tt _ _ _ hg2 (q1 _ _ hk').1)).elim
   simp only[if_neg hin] at hk
   by_cases hin':i*sz+j<=k'/\k'<i*sz+j+ns.length
   .simp only[if_pos hin'] at hk'
    obtain⟨g',hg1',hg2'⟩:=hk'
    cases g' with
    |none=>exact hg2'.elim
    |some m'=>exact(Mo hg hg1' (hR.ok.sf.tt _ _ _ hg2' (q1 _ _ hk).1)).elim
   simp only[if_neg hin'] at hk'
   exact q2 _ _ _ hk hk'
  rw[XI hes he hs hel'] at hd
  rw[dX (g8 _ hh),aes,mW (by simp;omega) (by simp;omega),hlen]
  by_cases hin:i*sz+j<=jj/\jj<i*sz+j+ns.length
  .rw[if_pos hin] at hd
   obtain⟨u,g,u1,u2,u3⟩:=v3 _ _ hd
   refine⟨u,?_,?_⟩
   .rw[if_pos oaa]
    simpa using u1
   simp only[if_pos hin]
   refine u3.keep (λb' hb'=>dP _ _ _ _ ?_) (λb' hb'=>⟨g,u2,hb'⟩)
   cases g with
   |none=>exact hb'.elim
   |some m=>exact λe=>hnb m (e▸hb')
  rw[if_neg hin] at hd
  obtain⟨u,u1,u2⟩:=q3 _ _ hd
  refine⟨u,?_,?_⟩
  .rw[if_neg oaa];rw[dX hh] at u1;simpa using u1
  simp only[if_neg hin]
  exact u2.keep (λb' hb'=>dP _ _ _ _ (Ne.symm (q1 _ _ hb').2).symm) (λ_ h=>h)
 refine⟨E.rg (mgs gs l),ud hR1 hr hF ⟨b,c,_,hr,g8 _ hh,?_,by simpa using hlc,hmx,hes',?_,λ_=>hF,(λh=>by cases h),hTr⟩⟩
 .simp;omega
 obtain⟨Q,q1,q2⟩:=hTr
 exact trLL_rd (λk b' hk=>(q1.1 k b' hk).1) q2
end
section
variable{P:Program}{N:Nat}{d:Tmp}{ty:TypeId}{ps:String}{af:Array Edge}{gd:Option (Nat×Bool)}{x y z:Operand}{st:St}
theorem Qg(hR:Rel N cx E st a w){o:Nat}[ht:dz P t e sz by_](hrv:rsp o=η)(hd:d<N){cc:Nat}{arr:Array Value}(hr:E.r o=ς (b,cc))(hu:a.eval x= .slice (ς ⟨b,0,ξ⟩) n cc)(hh:w.heap[b]?=ς (.cells arr e (0,0)))(ha:arr.size=cc*sz)(hlc:n<=cc)(hmx:cc<=maxLen)(hF:¬E.F b){ad:Addr}{k:Nat}(hv:a.eval y= .slice (ς ad) m k){news:Lae}(n1:news.length=m*sz)(q2:∀(j:Nat) (u:Value),news[j]?=ς u->w.cell? (ad.add j)=ς u)(n2:∀u∈news,u.oneCell'=ζ)(hk:nX o st.sl=ς sl')(hkb:jE o st.ob=ς ob')(hb:(n+m)*by_<=140737488355328)(h63:n+m<=9223372036854775807){NEW:Ob}(hNEW:∀(bn cap:Nat) (cur:Array Value) (w':World),w'.heap[bn]?=ς (.cells cur e (0,0))->cur.size=cap*sz->n+m<=cap->cap<=maxLen->cur.toList.take ((n+m)*sz)=arr.toList.take (n*sz)++news->¬E.F bn->(∀k,k<w.heap.size->k≠b->w'.heap[k]?=w.heap[k]?)->(bn=b\/bn=w.heap.size)->cN (E.upd o bn cap) w' o NEW):
 Oper.wp P ⟨ς d,.call ⟨.builtin .append,#[x,y],#[t,t]⟩,ty,ps,af,gd⟩ a w (λa' w'=>∃E',Rel N cx E' ⟨(d,.v (.c (.w o (n+m))))::sl',(o,NEW)::ob',st.nx⟩ a' w') (λ_ _ _=>False):=by
 obtain⟨ii,zz,i1,i2,i3,i4,i5⟩:=ht.i
 have hbl:=(hR.ok.rb o b cc hr)
 have hown:w.ownsRow 0 e sz (.slice (ς ⟨b,0,ξ⟩) n cc) n (arr.toList.take (n*sz)):=
  ⟨by simp_all,.inr ⟨b,cc,arr,rfl,abm _,hh,by omega,hmx,ha,rfl⟩⟩
 obtain⟨v',w',r1,r2,r3,r4',r5⟩:=run_append_own_at (P:=P) w 0 t ty e ii zz sz by_ ht.u i1 i4 i2 i3 i5 ht.p _ n _ hown ad m k news n1 q2 n2 (by unfold maxLen;omega) hb (abm _)
 have r4:v'≠.slice ξ 0 0:=λh=>by simp_all
 obtain⟨_,r2⟩:=r2
 rcases r2 with⟨rfl,_⟩|⟨bn,cap,cur,rfl,_,hhn,hcap,hcapm,hcur,htk⟩
 .simp_all
 unfold Oper.wp
 simp only[execOp,resolve,invoke,builtin,Sem.run_bind,Sem.run_pure,Result.andThen_ok,ad8,adU,ad3,hu,hv,r1,Oper.upon_value]
 have hbn:bn=b\/bn=w.heap.size:=by simpa [Value.ownBlock] using r5
 have hsame:∀k,k<w.heap.size->k≠b->w'.heap[k]?=w.heap[k]?:=λk hk hne=>r3.block k hk (λe=>hne (by injection e))
 have hnF:¬E.F bn:=by
  rcases hbn with rfl|rfl
  .exact hF
  exact λh=>by have:=hR.ok.fb _ h;omega
 have hbig:bn<w'.heap.size:=by
  rcases ac9 bn w'.heap.size with h|h
  .exact h
  simp_all
 have hnew:∀l bl cl,l≠o->E.r l=ς (bl,cl)->bl≠bn:=by
  intro l bl cl hne hl e
  subst e
  rcases hbn with h|h
  .subst h;exact hne (hR.ok.inj l o _ _ _ hl hr)
  have:=(hR.ok.rb l bl cl hl).1;omega
 have hHb:∀(g:Bool) k,E.H g k->k≠b/\k<w.heap.size:=λg k hk=>⟨λe=>by subst e;cases g;exact hF hk;exact hF (hR.ok.gf _ hk),hR.ok.hb hk⟩
 have kb:eP o E w (E.upd o bn cap) w':=⟨λl x hne hl=>by simp only[Env.upd];simp_all,λ_ _ h=>h,λg k hk=>hsame k (hHb g k hk).2 (hHb g k hk).1,λl k hk=>⟨hk,hsame k (hR.ok.sf.tb l k hk).1.1 (λe=>by subst e;exact(hR.ok.sf.tb l k hk).2.2.1 o _ hr)⟩,λk hk=>⟨hk,.of_eq (hsame k (hR.ok.sf.zb k hk).1.2.1 (λe=>by subst e;exact(hR.ok.sf.zb k hk).2.2.1 o _ hr))⟩,λ_ _=>Iff.rfl⟩
 refine⟨E.upd o bn cap,⟨λk hk=>aci (hR.ok.fb k hk) r3.size,hR.ok.gf,hR.ok.gn,λl bl cl hl=>?_,λl l' bl cl cl' hl hl'=>?_,by rw[r3.os];exact hR.ok.os,by rw[r3.tape];exact hR.ok.tape,by rw[r3.output];exact hR.ok.output,acR hR.ok.size r3.size,λk hk hW=>?_,λl xx hv hl=>by
  simp only[Env.upd] at hl
  split at hl
  .simp_all
  exact hR.ok.pin l xx hv hl,hR.ok.ff,λk hk hk'=>(hR.ok.gc k hk hk').of_eq (hsame k (hHb η k hk).2 (hHb η k hk).1),hR.ok.sf.turn hr rfl rfl (λ_ h=>.inl h) (λl bl cl hl=>by
  simp only[Env.upd] at hl
  grind) r3.size hsame⟩,λl xx hl=>?_,λl ob hl=>?_,λk=>?_,hR.dfr,by simpa [Act.put] using hR.size,hR.td⟩
 .simp only[Env.upd] at hl
  split at hl
  .rename_i elo
   cases hl
   refine⟨hbig,?_⟩
   rcases hbn with h|h
   .simp_all
   left;rw[h];exact .inl hR.ok.size
  have:=hR.ok.rb l bl cl hl;grind
 .simp only[Env.upd] at hl hl'
  split at hl<;>split at hl'
  .omega
  .grind
  .grind
  exact hR.ok.inj l l' bl cl cl' hl hl'
 .have hkb':k≠b:=λe=>by
   subst e;exact(hR.ok.rw hr).elim (λh=>by omega) hW
  rw[hsame k (by have:=hR.ok.size;omega) hkb'];exact hR.ok.block k hk hW
 .simp only[Env.upd] at hl
  split at hl
  .rename_i e;subst e;exact hR.dom _ _ hr
  exact hR.dom l _ hl
 .by_cases hlo:o=l
  .subst hlo
   rw[bX] at hl;cases hl
   exact hNEW bn cap cur _ hhn hcur oaa hcapm htk hnF hsame hbn
  rw[bg _ _ hlo] at hl
  rcases tG hkb hl with⟨t',cs,cs',k1,k2,rfl⟩|⟨t',sz',els',g',m',k1,rfl⟩|⟨t',sz',els',g',k1,rfl⟩|⟨j',y',k1,rfl⟩
  .obtain⟨bl,cl,arrl,l1,l2,l3,l4⟩:=hR.obs l _ k1
   have hne:bl≠b:=λe=>hlo (by subst e;exact hR.ok.inj _ _ _ _ _ hr l1)
   exact⟨bl,cl,arrl,kb.r _ _ (Ne.symm hlo) l1,(hsame bl (hR.ok.rb _ _ _ l1).1 hne).trans l2,wj kb k2 l3,l4⟩
  .obtain⟨bl,cl,arrl,l1,l2,l3,l4,l5,l6,l7,l8,l9⟩:=hR.obs l _ k1
   have hne:bl≠b:=λe=>hlo (by subst e;exact hR.ok.inj _ _ _ _ _ hr l1)
   have hb2:=hsame bl (hR.ok.rb _ _ _ l1).1 hne
   exact⟨bl,cl,arrl,kb.r _ _ (Ne.symm hlo) l1,hb2.trans l2,l3,l4,l5,l6,bP (kb.hp _) (kb.HH _) hb2 _ _ l7,l8,l9.1,qY kb hb2 l9.2⟩
  .rcases hR.obs l _ k1 with h|⟨l0,bl,cl,arrl,l1,l2,l3,l4,l5,l6,l7,l8⟩
   .exact .inl h
   have hne:bl≠b:=λe=>hlo (by subst e;exact hR.ok.inj _ _ _ _ _ hr l1)
   have hb2:=hsame bl (hR.ok.rb _ _ _ l1).1 hne
   exact .inr ⟨l0,bl,cl,arrl,kb.r _ _ (Ne.symm hlo) l1,hb2.trans l2,l3,l4,l5,l6,bP (kb.hp _) (kb.HH _) hb2 _ _ l7,l8.1,qY kb hb2 l8.2⟩
  rcases hR.obs l _ k1 with h|⟨l0,bl,cl,l1,l2,l3⟩
  .exact .inl h
  have hne:bl≠b:=λe=>hlo (by subst e;exact hR.ok.inj _ _ _ _ _ hr l1)
  have hb2:=hsame bl (hR.ok.rb _ _ _ l1).1 hne
  exact .inr ⟨l0,bl,cl,kb.r _ _ (Ne.symm hlo) l1,y'.st _ _ _ _ _ _ l2 (λk hk=>(kb.T _ k hk).1) hb2 (λk hk=>(kb.T _ k hk).2),l3⟩
 rw[ef (by rw[hR.size];exact hd)]
 by_cases hdk:d=k
 .subst hdk;rw[da,if_pos rfl];exact⟨bn,cap,by simp[Env.upd],rfl⟩
 rw[ck _ _ hdk,if_neg hdk]
 rcases zl hk k with h|⟨h,h'⟩
 .rw[h];trivial
 rw[h];exact Gj kb h' (hR.sl k)
end
section
variable{P:Program}{N:Nat}{d:Tmp}{ty:TypeId}{ps:String}{af:Array Edge}{gd:Option (Nat×Bool)}{x y z:Operand}{sl:Lab}{ob:Laa}{nx:Nat}
theorem dJ.raw{T:Nat->Prop}{ys:Lad}{c:Nat}{e:TypeId}{arr:Array Value}(hT:dJ w T ys b)(hh:w.heap[b]?=ς (.cells arr e (0,0)))(ha:arr.size=c*sz)(hc:ys.length<=c)(hm:ys.length=m)(hsz:∀e∈ys,e.length=sz):
 (arr.toList.take (m*sz)).length=m*sz/\(∀(j:Nat) (u:Value),(arr.toList.take (m*sz))[j]?=ς u->w.cell? ((⟨b,0,ξ⟩:Addr).add j)=ς u)/\(∀u∈arr.toList.take (m*sz),u.oneCell'=ζ):=by
 have hle:m*sz<=arr.size:=by rw[ha,<-hm];exact adh _ hc
 have hl:(arr.toList.take (m*sz)).length=m*sz:=by rw[ad0,aeD];omega
 have hg:∀(j:Nat) (u:Value),(arr.toList.take (m*sz))[j]?=ς u->arr[j]?=ς u/\j<m*sz:=λj u hj=>by
  have hjl:j<m*sz:=by have:=(f5.1 hj).1;omega
  rw[adj,if_pos hjl] at hj
  exact⟨by simpa using hj,hjl⟩
 refine⟨hl,λj u hj=>?_,λu hu=>?_⟩
 .rw[vy,aa5,dX hh];exact(hg j u hj).1
 obtain⟨j,hj⟩:=ac7 hu
 obtain⟨h1,h2⟩:=hg j u hj
 obtain⟨Q,_,q2⟩:=dJ.iff.1 hT
 have hf:ys.flatten.length=m*sz:=by rw[eF hsz,hm]
 obtain⟨v,v1,v2⟩:=q2 j (ys.flatten[j]'(by omega)) (hV _)
 rw[dX hh,h1] at v1
 cases v1
 exact kj v2.rd
theorem dJ.append{w':World}{T1 T2 T':Nat->Prop}{ys:Lad}{b2 bn:Nat}{e:TypeId}{arr arr2 cur:Array Value}(h1:dJ w T1 els b)(h2:dJ w T2 ys b2)(hh:w.heap[b]?=ς (.cells arr e (0,0)))(hh2:w.heap[b2]?=ς (.cells arr2 e (0,0)))(hhn:w'.heap[bn]?=ς (.cells cur e (0,0)))(hn:els.length=n)(hm:ys.length=m)(hes:∀e∈els,e.length=sz)(hsz:∀e∈ys,e.length=sz)(hle:n*sz<=arr.size)(hle2:m*sz<=arr2.size)(htk:cur.toList.take ((n+m)*sz)=arr.toList.take (n*sz)++arr2.toList.take (m*sz))(hd:∀k,T1 k->T2 k->False)(hw1:∀k,T1 k->w'.heap[k]?=w.heap[k]?/\T' k/\k≠bn)(hw2:∀k,T2 k->w'.heap[k]?=w.heap[k]?/\T' k/\k≠bn):dJ w' T' (els++ys) bn:=by
 obtain⟨Q1,⟨q1,q2⟩,q3⟩:=dJ.iff.1 h1
 obtain⟨Q2,⟨p1,p2⟩,p3⟩:=dJ.iff.1 h2
 have hfl:els.flatten.length=n*sz:=by rw[eF hes,hn]
 have hfl2:ys.flatten.length=m*sz:=by rw[eF hsz,hm]
 have hxs:(arr.toList.take (n*sz)).length=n*sz:=by rw[ad0,aeD];omega
 have hcurj:∀(j:Nat) (u:Value),(arr.toList.take (n*sz)++arr2.toList.take (m*sz))[j]?=ς u->cur[j]?=ς u:=by
  intro j u hu
  rw[<-htk,adj] at hu
  split at hu
  .simpa using hu
  cases hu
 refine dJ.iff.2 ⟨λk=>if k<n*sz then Q1 k else Q2 (k-n*sz),⟨λk b' hk=>?_,λk k' b' hk hk'=>?_⟩,λj xd hj=>?_⟩
 .by_cases h:k<n*sz
  .simp only[if_pos h] at hk;have:=hw1 _ (q1 _ _ hk).1;exact this.2
  simp only[if_neg h] at hk;have:=hw2 _ (p1 _ _ hk).1;exact this.2
 .by_cases h:k<n*sz<;>by_cases h':k'<n*sz
  .simp only[if_pos h] at hk;simp only[if_pos h'] at hk';exact q2 _ _ _ hk hk'
  .simp only[if_pos h] at hk;simp only[if_neg h'] at hk';exact(hd _ (q1 _ _ hk).1 (p1 _ _ hk').1).elim
  .simp only[if_neg h] at hk;simp only[if_pos h'] at hk';exact(hd _ (q1 _ _ hk').1 (p1 _ _ hk).1).elim
  simp only[if_neg h] at hk;simp only[if_neg h'] at hk';have:=p2 _ _ _ hk hk';omega
 rw[dX hhn]
 rw[ad2] at hj
 by_cases hjn:j<n*sz
 .rw[aa8 oaa] at hj
  obtain⟨u,u1,u2⟩:=q3 _ _ hj
  rw[dX hh] at u1
  refine⟨u,hcurj j u ?_,?_⟩
  .rw[aa8 oaa,adj,if_pos hjn];simpa using u1
  simp only[if_pos hjn];exact u2.keep (λk hk=>(hw1 k (q1 _ _ hk).1).1) λ_ h=>h
 rw[aa3 oaa,hfl] at hj
 have hj2:j-n*sz<m*sz:=by have:=(f5.1 hj).1;omega
 obtain⟨u,u1,u2⟩:=p3 _ _ hj
 rw[dX hh2] at u1
 refine⟨u,hcurj j u ?_,?_⟩
 .rw[aa3 oaa,hxs,adj,if_pos hj2];simpa using u1
 simp only[if_neg hjn];exact u2.keep (λk hk=>(hw2 k (p1 _ _ hk).1).1) λ_ h=>h
theorem Jy(hR:Rel N cx E ⟨sl,ob,nx⟩ a w){o o2:Nat}{ys:Lad}[ht:dz P t e sz by_](hrv:rsp o=η)(hd:d<N){cc:Nat}{arr:Array Value}(hr:E.r o=ς (b,cc))(hu:a.eval x= .slice (ς ⟨b,0,ξ⟩) n cc)(hh:w.heap[b]?=ς (.cells arr e (0,0)))(ha:arr.size=cc*sz)(hlc:els.length<=cc)(hmx:cc<=maxLen)(hes:∀e∈els,e.length=sz)(hT:dJ w (E.T l) els b)(hF:¬E.F b)(hlq:l≠q)(hlx:l<nx)(hy:opT sl y= .v (.c (.w o2 m)))(ho2:go ob o2=ς (.row e sz ys (.s q) ζ))(hm:ys.length=m)(hk:nX o (Gd (mg q l) sl)=ς sl')(hkb:jE o (DB (mg q l) ob)=ς ob')(hn:els.length=n)(hb:(n+m)*by_<=140737488355328)(h63:n+m<=9223372036854775807):
 Oper.wp P ⟨ς d,.call ⟨.builtin .append,#[x,y],#[t,t]⟩,ty,ps,af,gd⟩ a w (λa' w'=>∃E',Rel N cx E' ⟨(d,.v (.c (.w o (n+m))))::sl',(o,.row e sz (els++ys) (.s l) ζ)::ob',nx⟩ a' w') (λ_ _ _=>False):=by
 have h2:=hR.op y;rw[hy] at h2
 obtain⟨b2,c2,hr2,hv⟩:=h2
 obtain⟨b2',c2',arr2,hr2',hh2,ha2,hlc2,hmx2,hsz,hrd2,hF2,_,hT2⟩:=hR.obs o2 _ ho2
 rw[hr2] at hr2';cases hr2'
 obtain⟨n1,q2,n2⟩:=hT2.raw hh2 ha2 hlc2 hm hsz
 have hf:∀k,k<nx->mg q l k<nx:=λk hk=>by
  unfold mg
  cases fW k q
  .exact hk
  exact hlx
 have hml:mg q l l=l:=by unfold mg;cases fW l q<;>rfl
 have hmq:mg q l q=l:=by unfold mg;simp
 have hR1:=Ze (mg q l) hf hR
 refine Qg (st:=⟨Gd (mg q l) sl,DB (mg q l) ob,nx⟩) hR1 hrv hd hr hu hh ha oaa hmx hF hv n1 q2 n2 hk hkb hb h63 λbn cap cur w' k1 k2 k3 k4 k5 k6 k7 k8=>?_
 have hall:∀e'∈els++ys,e'.length=sz:=λe' he'=>(aau.1 he').elim (hes e') (hsz e')
 have hne:∀j k,E.T j k->w'.heap[k]?=w.heap[k]?/\k≠bn:=λj k hk=>by
  obtain⟨a1,a2,a3,a4⟩:=hR.ok.sf.tb j k hk
  have hkb:k≠b:=λe=>a3 o cc (e▸hr)
  refine⟨k7 k a1.1 hkb,?_⟩
  rcases k8 with rfl|rfl
  .exact hkb
  omega
 have hTr:dJ w' ((E.rg (mg q l)).T l) (els++ys) bn:=
  hT.append hT2 hh hh2 k1 hn hm hes hsz (by rw[ha];exact adh _ oaa) (by rw[ha2];exact adh _ oaa) k5 (λk a1 a2=>hlq (hR.ok.sf.tt _ _ _ a1 a2)) (λk hk=>⟨(hne _ _ hk).1,⟨l,hml,hk⟩,(hne _ _ hk).2⟩) (λk hk=>⟨(hne _ _ hk).1,⟨q,hmq,hk⟩,(hne _ _ hk).2⟩)
 refine⟨bn,cap,cur,by simp[Env.upd],k1,k2,by simp;omega,k4,hall,?_,λ_=>k6,(λh=>by cases h),hTr⟩
 obtain⟨Q,a1,a2⟩:=hTr
 exact trLL_rd (λk b' hk=>(a1.1 k b' hk).1) a2
theorem QP{o o2:Nat}{ys:Lad}[ht:dz P t e sz by_](hrv:rsp o=η)(hd:d<N)(hx:opT sl x= .v (.c (.w o n)))(hy:opT sl y= .v (.c (.w o2 m)))(ho:go ob o=ς (.row e sz els (.s l) ζ))(ho2:go ob o2=ς (.row e sz ys (.s q) ζ))(hlq:fW l q=η)(hlx:nlt l nx=ζ)(hk:nX o (Gd (mg q l) sl)=ς sl')(hkb:jE o (DB (mg q l) ob)=ς ob')(hn:els.length=n)(hm:ys.length=m)(hb:(n+m)*by_<=140737488355328)(h63:n+m<=9223372036854775807):
 AWO P N ⟨ς d,.call ⟨.builtin .append,#[x,y],#[t,t]⟩,ty,ps,af,gd⟩ ⟨sl,ob,nx⟩ ⟨(d,.v (.c (.w o (n+m))))::sl',(o,.row e sz (els++ys) (.s l) ζ)::ob',nx⟩:=by
 intro cx E a w hR
 have h1:=hR.op x;rw[hx] at h1
 obtain⟨b,cc,hr,hu⟩:=h1
 obtain⟨b',c',arr,hr',hh,ha,hlc,hmx,hes,hrd,hFm,_,hT⟩:=hR.obs o _ ho
 rw[hr] at hr';cases hr'
 exact Jy hR hrv hd hr hu hh ha hlc hmx hes hT (hFm rfl) (hP hlq) (bV hlx) hy ho2 hm hk hkb hn hb h63
end
def exV:Value->D
 | .int k n=>.i k n
 | .bool b=>.b b
 | .string s=>.str s
 | .slice A n c=>.k A n c
 |_=>.b η
theorem XC{w':World}{F F':Nat->Prop}{d:D}(h:rdD w F d u):rdD w' F' (exV u) u/\cD (.d (.b ζ) (exV u))=ς (exV u,ζ)/\∀w' F' u',rdD w' F' (exV u) u'->u'=u:=by
 cases d<;>simp only[rdD] at h
 case l xs=>obtain⟨A,c,rfl,_⟩:=h;exact⟨by simp[exV,rdD],rfl,λ_ _ _ h=>by simpa [exV,rdD] using h⟩
 all_goals subst h;exact⟨by simp[exV,rdD],rfl,λ_ _ _ h=>by simpa [exV,rdD] using h⟩
theorem W5{w:World}{F:Nat->Prop}:∀{us:Lae},(∀u∈us,∃d,rdD w F d u)->csD (us.map λu=>.d (.b ζ) (exV u))=ς (us.map exV,ζ)
 |[],_=>rfl
 |u::us,h=>by
  obtain⟨d,hd⟩:=h u (by simp)
  rw[adU,csD,(XC (w':=w) (F':=F) hd).2.1,W5 (us:=us) λu hu=>h u (by simp[hu])]
  rfl
theorem CV_ex{E:Env}{w w0:World}{F:Nat->Prop}:∀{us:Lae},(∀u∈us,∃d,rdD w0 F d u)->CV E w (us.map λu=>.d (.b ζ) (exV u)) us
 |[],_=>trivial
 |u::us,h=>⟨(XC (h u (by simp)).choose_spec).1,CV_ex λu hu=>h u (by simp[hu])⟩
theorem acv{nx':Nat}{ob:Laa}(f:Nat->Nat)(hf:∀k,k<nx->f k<nx')(hn:nx<=nx')(hR:Rel N cx E ⟨sl,ob,nx⟩ a w):Rel N cx (E.rg f) ⟨Gd f sl,DB f ob,nx'⟩ a w:=by
 have ok:=hR.ok
 refine⟨⟨ok.fb,ok.gf,ok.gn,ok.rb,ok.inj,ok.os,ok.tape,ok.output,ok.size,ok.block,ok.pin,ok.ff,ok.gc,T4 ok.sf⟩,λo x h=>aci (hR.dom o x h) hn,λo x h=>?_,λk=>?_,hR.dfr,hR.size,λl b ⟨k,h1,h2⟩=>by subst h1;exact hf k (hR.td k b h2)⟩
 .rw[LO] at h
  cases hg:go ob o with
  |none=>rw[hg] at h;cases h
  |some y=>rw[hg] at h;cases h;exact rg_O (hR.obs o y hg)
 rw[LP];exact rg_Tt (hR.sl k)
section
variable{P:Program}{N:Nat}{d:Tmp}{ty:TypeId}{ps:String}{af:Array Edge}{gd:Option (Nat×Bool)}{p:Operand}{sl:Lab}{ob:Laa}{nx:Nat}
end
section
variable{P:Program}{N:Nat}{d:Tmp}{ty:TypeId}{ps:String}{af:Array Edge}{gd:Option (Nat×Bool)}{x y z:Operand}{sl:Lab}{ob:Laa}{nx:Nat}
end
theorem dJ.rdT{T:Nat->Prop}(h:dJ w T els b):rdLL w T els b 0:=by
 obtain⟨Q,a1,a2⟩:=h
 exact trLL_rd (λk b' hk=>(a1.1 k b' hk).1) a2
theorem Lc{ty:Nat}{ob:Laa}(o:Nat)(ho:go ob o=ς (.row ty sz els g ζ))(hg:∀e∈els,scB e=ζ):cO N ⟨sl,ob,nx⟩ ⟨sl,(o,.row ty sz els (.s l) ζ)::ob,nx⟩:=by
 intro cx E a w hR
 refine⟨E,hR.ok,hR.dom,λk x hk=>?_,hR.sl,hR.dfr,hR.size,hR.td⟩
 by_cases e:o=k
 .subst e
  rw[bX] at hk;cases hk
  obtain⟨b,c,arr,hr,hh,ha,hlc,hmx,hes,hrd,hF,_,_⟩:=hR.obs o _ ho
  have hT:dJ w (E.T l) els b:=dJ.flat hg hrd
  exact⟨b,c,arr,hr,hh,ha,hlc,hmx,hes,hT.rdT,hF,(λh=>by cases h),hT⟩
 rw[bg _ _ e] at hk;exact hR.obs k x hk
def clC:C->Bool
 | .d (.t _) _=>ζ
 | .d (.b ζ) _=>ζ
 | .d _ (.i _ _)=>ζ
 | .d _ (.b _)=>ζ
 | .d _ (.str _)=>ζ
 | .nil=>ζ
 |_=>η
def clCs:List C->Bool
 |[]=>ζ
 |c::cs=>clC c&&clCs cs
def clV:V->Bool
 | .c c=>clC c
 | .agg cs=>clCs cs
def clVs:List V->Bool
 |[]=>ζ
 |c::cs=>clV c&&clVs cs
section
variable{E E2:Env}{w:World}{f:Nat->Nat}(hG:∀b,E.G b->E2.G b)(hT:∀l b,E.T l b->E2.T (f l) b)
include hG hT
end
def outV:List V->T
 |[v]=>.v v
 |vs=>.tup vs
structure FnT(P:Program)(f:FuncId)(args:List AV)(out:List V)(k:Nat):Prop where
 cl:clVs out=ζ
 enters:∀(vs:Array Value) (w:World),(callFunc f vs).run P w= .ok (.enter f vs) w
 calls:∀(F:Nat->Prop) (w:World) (vals:Array Value),(∀b,F b->b<w.heap.size)->TabsIn w->AR w F args vals.toList->
  Calls P f vals w λe w'=>∃(v:Value) (G:Nat->Prop) (T:Nat->Nat->Prop),e= .returned v/\GR w w' (λ_=>False)/\(∀b,G b->w.heap.size<=b/\b<w'.heap.size/\fR w' b)/\
   (∀l b,T l b->l<k/\(w.heap.size<=b/\b<w'.heap.size/\fR w' b)/\¬G b)/\(∀l l' b,T l b->T l' b->l=l')/\cvT {r:=λ_=>ξ,F:=G,G:=G,T:=T} w' (outV out) v
def FinT(P:Program)(rs:List ResultVar)(out:List V)(k:Nat)(s:St):Prop:=∃vs,jN P s rs vs/\vs=out/\s.nx<=k
def PostT(N:Nat)(P:Program)(rs:List ResultVar)(out:List V)(k:Nat):Exit->St->Prop
 | .normal,s| .ret,s=>∃s',cO N s s'/\FinT P rs out k s'
 |_,_=>False
section
variable{P:Program}{N:Nat}{d:Tmp}{ty:TypeId}{ps:String}{af:Array Edge}{gd:Option (Nat×Bool)}{sl:Lab}{ob:Laa}{nx:Nat}
end
instance {N:Nat} {P:Program} {rs:List ResultVar} {out:List V} {k:Nat}:Clo N (PostT N P rs out k):=⟨λe s m hw h=>by
 cases e<;>simp only[PostT] at h ⊢<;>first|exact h|(obtain⟨s',h1,h2⟩:=h;exact⟨s',aK hw h1,h2⟩)⟩
def Gr.rl(rm:Lac):Gr->Option Gr
 | .b g=>ς (.b g)
 | .s l=>match cf rm l with
  |some k=>ς (.s k)
  |none=>ξ
 | .t l=>match cf rm l with
  |some k=>ς (.t k)
  |none=>ξ
def Ch(rm m:Lac):C->Option C
 | .d g x=>match g.rl rm with
  |some g'=>ς (.d g' x)
  |none=>ξ
 |c=>rlC m c
def DC(rm:Lac)(ob:Laa)(m:Lac):C->Option C
 | .d g x=>match g.rl rm with
  |some g'=>ς (.d g' x)
  |none=>ξ
 |c=>rlB ob m c
def Nj(rm:Lac)(up:Bool)(ob:Laa)(m:Lac):C->Option C
 | .d (.b g) x=>ς (.d (up&&g) x)
 | .nil=>ς (.d up (.l []))
 |c=>DC rm ob m c
def ue(rm:Lac)(f:C->Option C):Ob->Option Ob
 | .var t cs=>match lp f cs with
  |some cs'=>ς (.var t cs')
  |none=>ξ
 | .row t sz els g ζ=>match g.rl rm with
  |some g'=>ς (.row t sz els g' ζ)
  |none=>ξ
 | .row .. =>ξ
 | .rown t sz els g=>match g.rl rm with
  |some g'=>ς (.rown t sz els g')
  |none=>ξ
 | .abs j z=>match cf rm j with
  |some k=>ς (.abs k z)
  |none=>ξ
def zK(rmi mi:Lac)(ob:Laa):Lac->Option Laa
 |[]=>ς []
 |(k,o)::r=>match go ob o with
  |some x=>match ue rmi (DC rmi ob mi) x,zK rmi mi ob r with
   |some y,ς ys=>ς ((k,y)::ys)
   |_,_=>ξ
  |none=>ξ
def vN(rm m:Lac):Laa->Option Laa
 |[]=>ς []
 |(k,x)::r=>match cf m k,ue rm (Ch rm m) x,vN rm m r with
  |some o,ς y,ς ys=>ς ((o,y)::ys)
  |_,_,_=>ξ
def Gr.okR(rmi:Lac):Gr->Bool
 | .b _=>ζ
 | .s l| .t l=>(cf rmi l).isNone
def Ky(ys:Laa)(k:Nat):Bool:=match go ys k with
 |some (.var ..)=>ζ
 |some (.row ..)=>ζ
 |_=>η
theorem Hs{ys:Laa}{k:Nat}(h:Ky ys k=ζ)(hY:∀l y,go ys l=ς y->cN E w l y):∃x,E.r k=ς x:=by
 unfold Ky at h
 split at h
 .rename_i t cs hg;obtain⟨b,c,arr,q,_⟩:=hY _ _ hg;exact⟨_,q⟩
 .rename_i t sz els g m hg;obtain⟨b,c,arr,q,_⟩:=hY _ _ hg;exact⟨_,q⟩
 cases h
def mOKT(m nl:Lac)(nx n:Nat)(ys:Laa):Bool:=
 ((kh ((m++nl).map (·.1))&&kh ((m++nl).map (·.2)))&&(m.all (λp=>rsv p.1&&nlt p.2 nx)&&NB nx nl n))&&
  ((m.all (λp=>rsp p.1||rsv p.2)||m.all (λp=>rsp p.1||!rsv p.2))&&m.all (λp=>(!rsp p.2||rsp p.1)&&((!rsp p.1||Ky ys p.1)&&(go ys p.1).isSome)))
def xm(rmi mi:Lac):C->Option C
 | .w l n=>match cf mi l with
  |some k=>match rsp k with
   |true=>ς (.w l n)
   |false=>ς .any
  |none=>ς (.w l n)
 | .d g x=>match g.okR rmi with
  |true=>ς (.d g x)
  |false=>ς .any
 | .q g x j=>match g.okR rmi with
  |true=>ς (.q g x j)
  |false=>ς .any
 | .r l x=>match(Gr.s l).okR rmi with
  |true=>ς (.r l x)
  |false=>ς .any
 |c=>kvC mi c
def kvOT(rmi mi:Lac)(l:Nat)(x:Ob):Option Ob:=match cf mi l,x with
 |some _,x=>ς x
 |none,.row t sz els g m=>match g.okR rmi with
  |true=>ς (.row t sz els g m)
  |false=>ξ
 |none,.rown t sz els g=>match g.okR rmi with
  |true=>ς (.rown t sz els g)
  |false=>ξ
 |none,.abs j z=>match(Gr.s j).okR rmi with
  |true=>ς (.abs j z)
  |false=>ξ
 |none,.var t cs=>ς (.var t cs)
def Ob.okR(rmi:Lac):Ob->Bool
 | .row _ _ _ g _=>g.okR rmi
 | .rown _ _ _ g=>g.okR rmi
 | .abs j _=>(Gr.s j).okR rmi
 | .var .. =>ζ
theorem abE{rmi mi:Lac}{x:Ob}(h0:cf mi l=ξ)(h:kvOT rmi mi l x=ς y):y=x/\x.okR rmi=true:=by
 unfold kvOT at h
 rw[h0] at h
 cases x<;>simp only at h
 case var=>cases h;exact⟨rfl,rfl⟩
 all_goals
  split at h
  .rename_i h1;cases h;exact⟨rfl,h1⟩
  cases h
theorem rS{rmi:Lac}(h:g.okR rmi=ζ):(match g with| .b _=>True| .s l=>cf rmi l=ξ| .t l=>cf rmi l=ξ):=by
 cases g with
 |b g=>trivial
 |s l=>simpa [Gr.okR] using h
 |t l=>simpa [Gr.okR] using h
theorem ltC_gr{x:D}(h:(C.d g x).lt n=ζ):g.lt n:=by
 cases g with
 |b g=>trivial
 |s l=>exact bV h
 |t l=>exact bV h
theorem abV{x:List D}(h:(C.q g x j).lt n=ζ):g.lt n:=by
 cases g with
 |b g=>trivial
 |s l=>exact bV h
 |t l=>exact bV h
theorem Tc{t:Nat}{m:Bool}(h:(Ob.row t sz els g m).lt n=ζ):g.lt n:=by
 cases g with
 |b g=>trivial
 |s l=>exact bV h
 |t l=>exact bV h
theorem Oy{t:Nat}(h:(Ob.rown t sz els g).lt n=ζ):g.lt n:=by
 cases g with
 |b g=>trivial
 |s l=>exact bV h
 |t l=>exact bV h
def cntR(nx:Nat):Lac->Nat->Bool
 |[],n=>fW n nx
 |(_,o)::r,n=>fW o nx&&cntR (nx+1) r n
theorem Si:∀{nl:Lac} {nx n:Nat},cntR nx nl n=ζ->nx<=n/\∀k o,(k,o)∈nl->nx<=o/\o<n
 |[],nx,n,h=>by have:=aat h;exact⟨by omega,λ_ _ h=>by cases h⟩
 |(k,o)::r,nx,n,h=>by
  simp only[cntR,f4] at h
  have:=aat h.1
  subst this
  obtain⟨k1,k2⟩:=Si h.2
  refine⟨by omega,λk' o' hm=>?_⟩
  rcases aa2.1 hm with e|hm
  .cases e;omega
  have:=k2 _ _ hm;omega
def rmOK(rm nr:Lac)(nx n n':Nat):Bool:=
 ((kh ((rm++nr).map (·.1))&&kh ((rm++nr).map (·.2)))&&rm.all (λp=>nlt p.1 210&&nlt p.2 nx))&&cntR n nr n'
theorem KT{rmi mi:Lac}{ob:Laa}:∀{m:Lac} {xs:Laa} {l:Nat} {x:Ob},zK rmi mi ob m=ς xs->go xs l=ς x->∃o x0,cf m l=ς o/\go ob o=ς x0/\ue rmi (DC rmi ob mi) x0=ς x
 |[],xs,l,x,h,hg=>by simp[zK] at h;subst h;cases hg
 |(k,o)::r,xs,l,x,h,hg=>by
  simp only[zK] at h
  split at h
  .rename_i x0 h0
   split at h
   .rename_i y ys h1 h2
    simp at h;subst h
    by_cases e:k=l
    .subst e;rw[bX] at hg;cases hg;exact⟨o,x0,by simp[cf],h0,h1⟩
    rw[bg _ _ e] at hg
    obtain⟨o',x',a1,a2,a3⟩:=KT h2 hg
    exact⟨o',x',by simp only[cf,gQ e];exact a1,a2,a3⟩
   cases h
  cases h
theorem Ix{rmi mi:Lac}{ob:Laa}:∀{m:Lac} {xs:Laa} {k o:Nat},zK rmi mi ob m=ς xs->(k,o)∈m->∃x0 x,go ob o=ς x0/\ue rmi (DC rmi ob mi) x0=ς x
 |(k',o')::r,xs,k,o,h,hm=>by
  simp only[zK] at h
  split at h
  .rename_i x0 h0
   split at h
   .rename_i y ys h1 h2
    rcases aa2.1 hm with e|hm
    .cases e;exact⟨x0,y,h0,h1⟩
    exact Ix h2 hm
   cases h
  cases h
theorem ES{rm m:Lac}(hinj:∀a a' b,cf m a=ς b->cf m a'=ς b->a=a'):∀{ys ys':Laa} {o:Nat} {y':Ob},vN rm m ys=ς ys'->go ys' o=ς y'->∃k y,cf m k=ς o/\go ys k=ς y/\ue rm (Ch rm m) y=ς y'
 |[],ys',o,y',h,hg=>by simp[vN] at h;subst h;cases hg
 |(k,x)::r,ys',o,y',h,hg=>by
  simp only[vN] at h
  split at h
  .rename_i o1 y1 ys1 h1 h2 h3
   simp at h;subst h
   by_cases e:o1=o
   .subst e;rw[bX] at hg;cases hg;exact⟨k,x,h1,bX _ _ _,h2⟩
   rw[bg _ _ e] at hg
   obtain⟨k',y,a1,a2,a3⟩:=ES hinj h3 hg
   have hne:k≠k':=λe'=>by simp_all
   exact⟨k',y,a1,by rw[bg _ _ hne];exact a2,a3⟩
  cases h
theorem Fo{rm m:Lac}:∀{ys ys':Laa} {k:Nat} {y:Ob},vN rm m ys=ς ys'->go ys k=ς y->∃o,cf m k=ς o/\go ys' o≠ξ
 |(k',x)::r,ys',k,y,h,hg=>by
  simp only[vN] at h
  split at h
  .rename_i o1 y1 ys1 h1 h2 h3
   simp at h;subst h
   by_cases e:k'=k
   .subst e;exact⟨o1,h1,by rw[bX];simp⟩
   rw[bg _ _ e] at hg
   obtain⟨o,a1,a2⟩:=Fo h3 hg
   refine⟨o,a1,?_⟩
   by_cases e2:o1=o
   .subst e2;rw[bX];simp
   rw[bg _ _ e2];exact a2
  cases h
theorem K0{rm:Lac}{f:C->Option C}{t:Nat}{mm:Bool}(h:ue rm f (.row t sz els g mm)=ς y):∃g',g.rl rm=ς g'/\mm=ζ/\y= .row t sz els g' true:=by
 cases mm
 .simp[ue] at h
 simp only[ue] at h
 split at h
 .rename_i g' h1;cases h;exact⟨g',h1,rfl,rfl⟩
 cases h
theorem Rl{rm:Lac}{f:C->Option C}{t:Nat}(h:ue rm f (.rown t sz els g)=ς y):∃g',g.rl rm=ς g'/\y= .rown t sz els g':=by
 simp only[ue] at h
 split at h
 .rename_i g' h1;cases h;exact⟨g',h1,rfl⟩
 cases h
theorem Po{E':Env}{rm:Lac}{f:C->Option C}{o:Nat}{x:Ob}(h:ue rm f x=ς y)(hf:∀c c' u,f c=ς c'->cvC E w c u->cvC E' w c' u)(hr:∀b c,¬(E.n l/\((∃t sz els g,x= .rown t sz els g)\/∃j z,x= .abs j z))->E.r l=ς (b,c)->E'.r o=ς (b,c))(hn:E'.n o↔E.n l)(hH:∀(g:Bool) b,E.H g b->E'.H g b)(hT:∀l k,cf rm l=ς k->∀b,E.T l b->E'.T k b)(hF:∀b c,¬(E.n l/\((∃t sz els g,x= .rown t sz els g)\/∃j z,x= .abs j z))->E.r l=ς (b,c)->¬E.F b->¬E'.F b)(hx:cN E w l x):cN E' w o y:=by
 have hHg:∀{g g':Gr},g.rl rm=ς g'->∀b,E.H g b->E'.H g' b:=by
  intro g g' h b hb
  cases g with
  |b g=>simp only[Gr.rl,Option.some.injEq] at h;subst h;exact hH g b hb
  |s l=>
   simp only[Gr.rl] at h;split at h
   .rename_i k h1;cases h;exact hT l k h1 b hb
   cases h
  |t l=>
   simp only[Gr.rl] at h;split at h
   .rename_i k h1;cases h;exact hT l k h1 b hb
   cases h
 have hG:∀{g g':Gr} {els:Lad} {b:Nat},g.rl rm=ς g'->uf E w els b g->uf E' w els b g':=by
  intro g g' els b h hb
  cases g with
  |b g=>simp only[Gr.rl,Option.some.injEq] at h;subst h;trivial
  |s l=>
   simp only[Gr.rl] at h;split at h
   .rename_i k h1;cases h;exact dJ.keep hb rfl (λ_ _=>rfl) (hT l k h1)
   cases h
  |t l=>
   simp only[Gr.rl] at h;split at h
   .rename_i k h1;cases h;exact dJ.keep hb rfl (λ_ _=>rfl) (hT l k h1)
   cases h
 cases x with
 |var t cs=>
  simp only[ue] at h
  split at h
  .rename_i h1;cases h
   obtain⟨b,c,arr,k1,k2,k3,k4⟩:=hx
   have hno:¬(E.n l/\((∃t' sz els g,Ob.var t cs= .rown t' sz els g)\/∃j z,Ob.var t cs= .abs j z)):=λ⟨_,h⟩=>by rcases h with⟨_,_,_,_,h⟩|⟨_,_,h⟩<;>cases h
   exact⟨b,c,arr,hr b c hno k1,k2,tT hf h1 k3,hF b c hno k1 k4⟩
  cases h
 |row t sz els g mm=>
  obtain⟨g',hg,rfl,rfl⟩:=K0 h
  obtain⟨b,c,arr,k1,k2,k3,k4,k5,k6,k7,k8,_,k9⟩:=hx
  have hno:¬(E.n l/\((∃t' sz' els' g',Ob.row t sz els g ζ= .rown t' sz' els' g')\/∃j z,Ob.row t sz els g ζ= .abs j z)):=λ⟨_,h⟩=>by rcases h with⟨_,_,_,_,h⟩|⟨_,_,h⟩<;>cases h
  exact⟨b,c,arr,hr b c hno k1,k2,k3,k4,k5,k6,bP (λ_ _=>rfl) (hHg hg) rfl _ _ k7,λ_=>hF b c hno k1 (k8 rfl),(λh=>by cases h),hG hg k9⟩
 |rown t sz els g=>
  obtain⟨g',hg,rfl⟩:=Rl h
  rcases hx with⟨h1,h2⟩|⟨h1,b,c,arr,k1,k2,k3,k4,k5,k6,k7,k8,k9⟩
  .exact .inl ⟨hn.2 h1,h2⟩
  exact .inr ⟨λk=>h1 (hn.1 k),b,c,arr,hr b c (λk=>h1 k.1) k1,k2,k3,k4,k5,k6,bP (λ_ _=>rfl) (hHg hg) rfl _ _ k7,hF b c (λk=>h1 k.1) k1 k8,hG hg k9⟩
 |abs j z=>
  simp only[ue] at h
  split at h
  .rename_i k h0;cases h
   rcases hx with⟨h1,h2⟩|⟨h1,b,c,k1,k2,k3⟩
   .exact .inl ⟨hn.2 h1,h2⟩
   exact .inr ⟨λk=>h1 (hn.1 k),b,c,hr b c (λk=>h1 k.1) k1,z.st _ _ _ _ _ _ k2 (hT j k h0) rfl (λ_ _=>rfl),hF b c (λk=>h1 k.1) k1 k3⟩
  cases h
set_option maxHeartbeats 2000000 in
open Classical in
theorem YI{up:Bool}{d:Tmp}{ty:TypeId}{ps:String}{af:Array Edge}{gd:Option (Nat×Bool)}{args:List Operand}{tys:Array TypeId}{ob:Laa}{ts ts':List T}{xs ys ys' nw nw':Laa}{out out':T}{m nl rm nr:Lac}{n':Nat}(hF:FnV P f xs ts' ys out nw)(ht:pH sl args=ς ts)(ha:tU (Nj (inv rm) up ob (inv m)) ts=ς ts')(hx:zK (inv rm) (inv m) ob m=ς xs)(hm:mOKT m nl nx n ys=ζ)(hrm:rmOK rm nr nx n n'=ζ)(hs:pZ (xm (inv rm) (inv m)) sl=ς sl')(hb:nL (xm (inv rm) (inv m)) (kvOT (inv rm) (inv m)) ob=ς ob')(hy:vN (rm++nr) (m++nl) ys=ς ys')(hw:vN (rm++nr) (m++nl) nw=ς nw')(ho:xP (Ch (rm++nr) (m++nl)) out=ς out')(hsl:Al nx sl=ζ)(hol:tZ nx ob=ζ)(hN:nlt d N=ζ):
 AWO P N ⟨ς d,.call ⟨.value (.func f),args.toArray,tys⟩,ty,ps,af,gd⟩ ⟨sl,ob,nx⟩ ⟨(d,out')::sl',nw'++(ys'++ob'),n'⟩:=by
 intro cx E a w hR
 have ok:=hR.ok
 obtain⟨t1,t2⟩:=nC ht
 simp only[mOKT,f4,aa4,adf,ac8] at hm
 obtain⟨⟨⟨hk1,hk2⟩,hm1,hc⟩,hu,hm2⟩:=hm
 simp only[rmOK,f4,aa4] at hrm
 obtain⟨⟨⟨hq1,hq2⟩,hq3⟩,hq4⟩:=hrm
 have rd1:=jH hq1
 have rd2:=jH hq2
 obtain⟨hnn',hru⟩:=Si hq4
 have rdm1:(rm.map (·.1)).Nodup:=by rw[adZ] at rd1;exact(ad6.1 rd1).1
 have rdm2:(rm.map (·.2)).Nodup:=by rw[adZ] at rd2;exact(ad6.1 rd2).1
 have rinv:∀{k o},cf rm k=ς o->cf (inv rm) o=ς k:=λh=>fD (by rw[tE];exact rdm2) (mn.2 (c9 h))
 have rof:∀{k o},cf (inv rm) o=ς k->cf rm k=ς o:=λh=>fD rdm1 (mn.1 (c9 h))
 have rinv':∀{k o},cf (rm++nr) k=ς o->cf (inv (rm++nr)) o=ς k:=λh=>fD (by rw[tE];exact rd2) (mn.2 (c9 h))
 have rof':∀{k o},cf (inv (rm++nr)) o=ς k->cf (rm++nr) k=ς o:=λh=>fD rd1 (mn.1 (c9 h))
 have rlk:∀{k o},cf rm k=ς o->cf (rm++nr) k=ς o:=λh=>fD rd1 (aau.2 (.inl (c9 h)))
 have rsplit:∀{k o},cf (rm++nr) k=ς o->cf rm k=ς o\/(k,o)∈nr:=λh=>(aau.1 (c9 h)).imp (fD rdm1) id
 have rrs:∀{k o},cf rm k=ς o->k<210/\o<nx:=λh=>by have:=hq3 _ (c9 h);exact⟨bV this.1,bV this.2⟩
 have rnone:∀{o},cf (inv rm) o=ξ->o<nx->cf (inv (rm++nr)) o=none:=by
  intro o h1 h2
  cases h:cf (inv (rm++nr)) o with
  |none=>rfl
  |some k=>
   rcases rsplit (rof' h) with h3|h3
   .rw[rinv h3] at h1;cases h1
   have:=(hru _ _ h3).1;have:=(CC hc).1;omega
 have nd1:=jH hk1
 have nd2:=jH hk2
 obtain⟨hnn,hcu⟩:=CC hc
 have ndm1:(m.map (·.1)).Nodup:=by rw[adZ] at nd1;exact(ad6.1 nd1).1
 have ndm2:(m.map (·.2)).Nodup:=by rw[adZ] at nd2;exact(ad6.1 nd2).1
 have inv_of:∀{k o},cf m k=ς o->cf (inv m) o=ς k:=λh=>fD (by rw[tE];exact ndm2) (mn.2 (c9 h))
 have of_inv:∀{k o},cf (inv m) o=ς k->cf m k=ς o:=λh=>fD ndm1 (mn.1 (c9 h))
 have inv_of':∀{k o},cf (m++nl) k=ς o->cf (inv (m++nl)) o=ς k:=λh=>fD (by rw[tE];exact nd2) (mn.2 (c9 h))
 have of_inv':∀{k o},cf (inv (m++nl)) o=ς k->cf (m++nl) k=ς o:=λh=>fD nd1 (mn.1 (c9 h))
 have look_m:∀{k o},cf m k=ς o->cf (m++nl) k=ς o:=λh=>fD nd1 (aau.2 (.inl (c9 h)))
 have split:∀{k o},cf (m++nl) k=ς o->cf m k=ς o\/(k,o)∈nl:=λh=>(aau.1 (c9 h)).imp (fD ndm1) id
 have linj:∀a a' b,cf m a=ς b->cf m a'=ς b->a=a':=λa a' b h h'=>by grind
 have linj':∀a a' b,cf (m++nl) a=ς b->cf (m++nl) a'=ς b->a=a':=λa a' b h h'=>by grind
 have mrs:∀{k o},cf m k=ς o->rsv k=ζ/\o<nx:=λh=>⟨(hm1 _ (c9 h)).1,bV (hm1 _ (c9 h)).2⟩
 have pick:∀{k o},cf m k=ς o->∃x0 x,go ob o=ς x0/\ue (inv rm) (DC (inv rm) ob (inv m)) x0=ς x:=λh=>Ix hx (c9 h)
 let nilL:Nat->Prop:=λo=>E.n o/\((∃t sz els g,go ob o=ς (.rown t sz els g))\/∃j z,go ob o=ς (.abs j z))
 let Ec:Env:={r:=λl=>match cf m l with|some o=>if nilL o then ξ else E.r o|none=>ξ,F:=E.F,G:=E.G,T:=λl b=>∃o,cf rm l=ς o/\E.T o b,n:=λl=>∃o,cf m l=ς o/\E.n o}
 have hEc:∀l p,Ec.r l=ς p->∃o,cf m l=ς o/\¬nilL o/\E.r o=ς p:=by
  intro l p h
  have h:(match cf m l with|some o=>if nilL o then ξ else E.r o|none=>ξ)=ς p:=h
  split at h
  .rename_i o h1
   split at h
   .cases h
   rename_i h2;exact⟨o,h1,h2,h⟩
  cases h
 have hEc2:∀{l o p},cf m l=ς o->¬nilL o->E.r o=ς p->Ec.r l=ς p:=by
  intro l o p h1 h2 h3
  show(match cf m l with|some o=>if nilL o then ξ else E.r o|none=>ξ)=ς p
  rw[h1];simp only[h2,if_false];exact h3
 have hEn:∀{l o},cf m l=ς o->(Ec.n l↔E.n o):=λh=>⟨λ⟨o',h1,h2⟩=>by grind,λh2=>⟨_,h,h2⟩⟩
 have nF:∀{l o b c},cf m l=ς o->¬nilL o->E.r o=ς (b,c)->¬E.F b:=by
  intro l o b c h1 h2 h3
  obtain⟨x0,x,a1,a2⟩:=pick h1
  have hx0:=hR.obs o x0 a1
  cases x0 with
  |var t cs=>obtain⟨b',c',arr,k1,k2,k3,k4⟩:=hx0;grind
  |row t sz els g mm=>
   obtain⟨g',hg',rfl,_⟩:=K0 a2
   obtain⟨b',c',arr,k1,k2,k3,k4,k5,k6,k7,k8,_⟩:=hx0
   rw[h3] at k1;cases k1;exact k8 rfl
  |rown t sz els g=>
   rcases hx0 with⟨k0,_⟩|⟨_,b',c',arr,k1,k2,k3,k4,k5,k6,k7,k8,_⟩
   .exact absurd ⟨k0,.inl ⟨_,_,_,_,a1⟩⟩ h2
   rw[h3] at k1;cases k1;exact k8
  |abs j z=>
   rcases hx0 with⟨k0,_⟩|⟨_,b',c',k1,k2,k3⟩
   .exact absurd ⟨k0,.inr ⟨_,_,a1⟩⟩ h2
   rw[h3] at k1;cases k1;exact k3
 have hVI:VIn Ec w:=⟨ok.fb,ok.gf,λl b c h=>by
  obtain⟨o,h1,h2,h3⟩:=hEc l _ h
  exact⟨(ok.rb o b c h3).1,(mrs h1).1,nF h1 h2 h3⟩,λl l' b c c' h h'=>by
  obtain⟨o,h1,h2,h3⟩:=hEc l _ h
  obtain⟨o',h1',h2',h3'⟩:=hEc l' _ h'
  have:=ok.inj _ _ _ _ _ h3 h3'
  grind,λl b ⟨o,h1,h2⟩=>⟨(ok.sf.tb o b h2).1.1,(ok.sf.tb o b h2).2.1,λl' c h=>(hEc l' _ h).elim λo' h=>(ok.sf.tb o b h2).2.2.1 o' c h.2.2,(ok.sf.tb o b h2).2.2.2,(rrs h1).1⟩,λl l' b ⟨o,h1,h2⟩ ⟨o',h1',h2'⟩=>by
  have:=ok.sf.tt o o' b h2 h2';subst this
  have:=rinv h1;rw[rinv h1'] at this;exact(Option.some.inj this).symm,λk hk l ⟨o,_,h⟩=>ok.nt hk h,λ_ h=>h⟩
 have hTe:∀{l o b},cf rm l=ς o->(Ec.T l b↔E.T o b):=λh=>⟨λ⟨o',h1,h2⟩=>by rw[h] at h1;cases h1;exact h2,λh2=>⟨_,h,h2⟩⟩
 have hgD:∀{g g':Gr} {x:D} {u:Value},g.rl (inv rm)=ς g'->gD E w g x u->gD Ec w g' x u:=by
  intro g g' x u h hc
  cases g with
  |b g=>simp only[Gr.rl,Option.some.injEq] at h;subst h;cases g<;>exact hc
  |s l=>
   simp only[Gr.rl] at h;split at h
   .rename_i k h1;cases h;exact bQ (F:=E.T l) (F':=Ec.T k) (λ_ _=>rfl) (λb hb=>(hTe (rof h1)).2 hb) x u hc
   cases h
  |t l=>
   simp only[Gr.rl] at h;split at h
   .rename_i k h1;cases h;exact hc.keep (λ_ _=>rfl) (λb hb=>(hTe (rof h1)).2 hb)
   cases h
 have hcB:∀c c' u,DC (inv rm) ob (inv m) c=ς c'->cvC E w c u->cvC Ec w c' u:=by
  intro c c' u h hc
  cases c with
  |w l n=>
   simp only[DC,rlB] at h
   split at h
   .rename_i k _ _ _ _ _ h1 h2;cases h
    obtain⟨b,c,h3,h4⟩:=hc
    exact⟨b,c,hEc2 (of_inv h1) (λ⟨_,h⟩=>by rw[h2] at h;rcases h with⟨_,_,_,_,h⟩|⟨_,_,h⟩<;>cases h) h3,h4⟩
   cases h
  |wn l n=>
   simp only[DC,rlB] at h
   split at h
   .rename_i k _ _ _ _ h1 h2;cases h
    rcases hc with⟨h3,h4⟩|⟨h3,b,c,h4,h5⟩
    .exact .inl ⟨(hEn (of_inv h1)).2 h3,h4⟩
    exact .inr ⟨λh=>h3 ((hEn (of_inv h1)).1 h),b,c,hEc2 (of_inv h1) (λh=>h3 h.1) h4,h5⟩
   cases h
  |p l n=>
   simp only[DC,rlB] at h
   split at h
   .rename_i k _ _ h1 h2;cases h
    obtain⟨b,c,h3,h4⟩:=hc
    exact⟨b,c,hEc2 (of_inv h1) (λ⟨_,h⟩=>by rw[h2] at h;rcases h with⟨_,_,_,_,h⟩|⟨_,_,h⟩<;>cases h) h3,h4⟩
   cases h
  |d g x=>
   simp only[DC] at h
   split at h
   .rename_i g' h1;cases h;exact hgD h1 hc
   cases h
  |nil=>simp only[DC,rlB] at h;cases h;exact hc
  |any=>simp only[DC,rlB] at h;cases h;trivial
  |fn f=>simp only[DC,rlB] at h;cases h;exact hc
  |_=>simp only[DC,rlB] at h;cases h
 have hcA:∀c c' u,Nj (inv rm) up ob (inv m) c=ς c'->cvC E w c u->cvC Ec w c' u:=by
  intro c c' u h hc
  cases c with
  |d g x=>
   cases g with
   |b g=>simp only[Nj] at h;cases h;exact bQ (F:=E.H g) (λ_ _=>rfl) (λb hb=>by cases g<;>cases up<;>first|exact hb|exact ok.gf b hb) x u hc
   |s l=>simp only[Nj] at h;exact hcB _ _ _ h hc
   |t l=>simp only[Nj] at h;exact hcB _ _ _ h hc
  |nil=>simp only[Nj] at h;cases h;exact⟨ξ,0,hc,abk _,.inl rfl⟩
  |_=>simp only[Nj] at h;exact hcB _ _ _ h hc
 have hX:∀l x,go xs l=ς x->cN Ec w l x:=by
  intro l x h
  obtain⟨o,x0,a1,a2,a3⟩:=KT hx h
  exact Po a3 hcB (λb c h1 h2=>hEc2 a1 (λ⟨k1,k2⟩=>h1 ⟨k1,k2.imp (λ⟨t,sz,els,g,k⟩=>⟨t,sz,els,g,by rw[a2] at k;exact Option.some.inj k⟩) (λ⟨j,z,k⟩=>⟨j,z,by rw[a2] at k;exact Option.some.inj k⟩)⟩) h2) (hEn a1) (λg b h=>by cases g<;>exact h) (λl k h b hb=>(hTe (rof h)).2 hb) (λb c h1 h2 h3=>h3) (hR.obs o x0 a2)
 have hA:=Ij (a:=a) hcA ha t1 (λx t hm=>by have:=hR.op x;rwa [Lk.mem t2 x t hm] at this)
 have hc:=hF.calls Ec w (args.map a.eval).toArray hVI ok.tabs (λk hk l c h=>by
  obtain⟨o,_,_,h3⟩:=hEc l _ h;exact ok.ntab h3 k hk rfl) hX oaa
 have hent:=hF.enters (args.map a.eval).toArray w
 unfold Oper.wp
 have hrun:(execOp a.eval ⟨ς d,.call ⟨.value (.func f),args.toArray,tys⟩,ty,ps,af,gd⟩).run P w= .ok (.enter f (args.map a.eval).toArray) w:=by
  simp only[execOp,resolve,Act.eval,Deferred.ofValue,Sem.run_bind,Sem.run_pure,Result.andThen_ok,invoke]
  simpa using hent
 rw[hrun,Oper.upon_enter]
 refine hc.mono ?_
 rintro e w' ⟨v,E',rfl,vo,hv,hY,hNW⟩
 have hsz:=vo.past.size
 have tP:∀{b},(∃l,Ec.T l b)->∃k l,cf rm k=ς l/\E.T l b:=λ⟨k,l,h1,h2⟩=>⟨k,l,h1,h2⟩
 let E2:Env:={r:=λl=>match cf (inv (m++nl)) l with|some k=>E'.r k|none=>E.r l,F:=E'.F,G:=E'.G,T:=λl b=>match cf (inv (rm++nr)) l with|some k=>E'.T k b|none=>E.T l b,Z:=E.Z,n:=λl=>match cf (inv (m++nl)) l with|some k=>E'.n k|none=>E.n l}
 have e2r:∀{k o},cf (m++nl) k=ς o->E2.r o=E'.r k:=λh=>by grind
 have e2n:∀{k o},cf (m++nl) k=ς o->(E2.n o↔E'.n k):=λh=>by grind
 have e2r0:∀{o},cf (inv (m++nl)) o=ξ->E2.r o=E.r o:=λh=>by grind
 have e2n0:∀{o},cf (inv (m++nl)) o=ξ->(E2.n o↔E.n o):=λh=>by grind
 have e2t:∀{k o},cf (rm++nr) k=ς o->E2.T o=E'.T k:=λ{k o} h=>funext λb=>by
  show(match cf (inv (rm++nr)) o with|some k=>E'.T k b|none=>E.T o b)=_
  rw[rinv' h]
 have e2t0:∀{o},cf (inv (rm++nr)) o=ξ->E2.T o=E.T o:=λ{o} h=>funext λb=>by
  show(match cf (inv (rm++nr)) o with|some k=>E'.T k b|none=>E.T o b)=_
  rw[h]
 have e2tc:∀l b,E2.T l b->(∃k,cf (rm++nr) k=ς l/\E'.T k b)\/(cf (inv (rm++nr)) l=ξ/\E.T l b):=by
  intro l b h
  cases h1:cf (inv (rm++nr)) l with
  |some k=>exact .inl ⟨k,rof' h1,by rw[e2t (rof' h1)] at h;exact h⟩
  |none=>rw[e2t0 h1] at h;exact .inr ⟨rfl,h⟩
 have oldT:∀{k b},E'.T k b->w.heap.size<=b\/∃k' l,cf rm k'=ς l/\E.T l b:=λh=>((vo.T _ _ h).1.2).imp id tP
 have e2c:∀l b c,E2.r l=ς (b,c)->(∃k,cf (m++nl) k=ς l/\E'.r k=ς (b,c))\/(cf (inv (m++nl)) l=ξ/\E.r l=ς (b,c)):=by
  intro l b c h
  cases h1:cf (inv (m++nl)) l with
  |some k=>exact .inl ⟨k,of_inv' h1,by grind⟩
  |none=>grind
 have oldB:∀{k b c},E'.r k=ς (b,c)->(w.heap.size<=b\/∃k l,cf rm k=ς l/\E.T l b)\/∃l o c',cf m l=ς o/\¬nilL o/\E.r o=ς (b,c')/\rsv k=true:=by
  intro k b c h
  rcases(vo.rb k b c h).2 with(h|h)|⟨⟨l,c',h⟩,h2⟩
  .exact .inl (.inl h)
  .exact .inl (.inr (tP h))
  obtain⟨o,h3,h4,h5⟩:=hEc l _ h;grind
 have none_of:∀{o},(∀k,cf m k≠ς o)->o<nx->cf (inv (m++nl)) o=none:=by
  intro o h1 h2
  cases h:cf (inv (m++nl)) o with
  |none=>rfl
  |some k=>
   rcases split (of_inv' h) with h3|h3
   .grind
   grind
 have hnot:∀{o},cf (inv (m++nl)) o=ξ->∀k,cf m k≠ς o:=λh k h1=>by grind
 have hheap:∀k,k<w.heap.size->(∀l o c,cf m l=ς o->¬nilL o->E.r o≠ς (k,c))->(∀j l,cf rm j=ς l->¬E.T l k)->w'.heap[k]?=w.heap[k]?:=λk hk h hq=>vo.past.block k hk (λh1=>by
  rcases h1 with⟨l,c,h1⟩|⟨l,o,h1,h2⟩
  .obtain⟨o,h2,h3,h4⟩:=hEc l _ h1;exact h _ _ _ h2 h3 h4
  exact hq _ _ h1 h2)
 have hFh:∀b,E.F b->w'.heap[b]?=w.heap[b]?:=λb hb=>hheap b (ok.fb b hb) (λl o c h1 h2 h3=>nF h1 h2 h3 hb) (λ_ l _ h=>(ok.sf.tb l b h).2.1 hb)
 have hHh:∀(g:Bool) b,E.H g b->w'.heap[b]?=w.heap[b]?:=λg b hb=>hFh b (by cases g;exact hb;exact ok.gf b hb)
 have hTh:∀l b,cf (inv rm) l=ξ->E.T l b->w'.heap[b]?=w.heap[b]?:=λl b hl hb=>hheap b (ok.sf.tb l b hb).1.1 (λ_ o c _ _ h=>(ok.sf.tb l b hb).2.2.1 o c h) (λk l' h1 h2=>by
  have:=ok.sf.tt _ _ _ hb h2;subst this;rw[rinv h1] at hl;cases hl)
 have hZh:∀b,cx.Z b->w'.heap[b]?=w.heap[b]?:=λb hb=>hheap b (ok.sf.zc b hb).1.2.1 (λ_ o c _ _ h=>(ok.sf.zc b hb).2.2.1 o c h) (λ_ l _ h=>ok.sf.tz h hb)
 have okE:dr cx E2 w':=by
  refine⟨vo.fb,vo.gf,λb h=>?_,λl b c h=>?_,λl l' b c c' h h'=>?_,by rw[vo.past.os];exact ok.os,by rw[vo.past.tape];exact ok.tape,by rw[vo.past.output];exact ok.output,acR ok.size hsz,λb h hW=>?_,λl x hv h=>?_,λb h=>?_,λb h h'=>?_,⟨λl b h=>?_,λl l' b h h'=>?_,λb h=>?_,λb h=>?_,ok.sf.ze⟩⟩
  .rcases vo.g0 b h with h|h|h
   .exact .inl (acR ok.size h)
   .exact ok.gn b h
   obtain⟨_,l,_,h⟩:=tP h;exact(ok.sf.tb l b h).1.2.ng
  .rcases e2c l b c h with⟨k,h1,h2⟩|⟨h1,h2⟩
   .refine⟨(vo.rb k b c h2).1,?_⟩
    rcases oldB h2 with(h3|⟨_,l',_,h3⟩)|⟨l',o',c',h3,h4,h5,h6⟩
    .exact .inl (.inl (acR ok.size h3))
    .exact .inl (ok.sf.tb l' b h3).1.2
    rcases split h1 with h7|h7
    .rcases(ok.rb o' b c' h5).2 with h8|⟨h8,h9⟩
     .exact .inl h8
     refine .inr ⟨h8,?_⟩
     cases hp:rsp k with
     |true=>
      have h10:=vo.pin k _ hp h2
      obtain⟨o2,h11,_,h13⟩:=hEc k _ h10
      rw[h7] at h11;cases h11
      have:=ok.inj _ _ _ _ _ h13 h5
      grind
     |false=>
      rcases hu with hu|hu
      .rcases hu _ (c9 h7) with h10|h10
       .grind
       exact h10
      rcases hu _ (c9 h3) with h10|h10
      .have h11:rsp l'=true:=h10
       have h12:=inv_of h3
       exfalso
       have hy2:(go ys l').isSome=true:=(hm2 _ (c9 h3)).2.2
       have hv2:Ky ys l'=true:=((hm2 _ (c9 h3)).2.1).resolve_left (by simp[h11])
       obtain⟨⟨b1,c1⟩,q1⟩:=Hs hv2 hY
       have q2:=vo.pin l' _ h11 q1
       obtain⟨o2,q3,_,q4⟩:=hEc l' _ q2
       rw[h3] at q3;cases q3
       rw[h5] at q4;cases q4
       have:=vo.inj _ _ _ _ _ q1 h2
       grind
      grind
    grind
   have:=ok.rb l b c h2;grind
  .rcases e2c l b c h with⟨k,h1,h2⟩|⟨h1,h2⟩<;>rcases e2c l' b c' h' with⟨k',h1',h2'⟩|⟨h1',h2'⟩
   .have:=vo.inj _ _ _ _ _ h2 h2'
    grind
   .exfalso
    rcases oldB h2 with(h3|⟨_,l3,_,h3⟩)|⟨l2,o2,c2,h3,h4,h5,_⟩
    .have:=(ok.rb _ _ _ h2').1;omega
    .exact(ok.sf.tb l3 b h3).2.2.1 _ _ h2'
    have:=ok.inj _ _ _ _ _ h5 h2'
    subst this
    exact hnot h1' _ h3
   .exfalso
    rcases oldB h2' with(h3|⟨_,l3,_,h3⟩)|⟨l2,o2,c2,h3,h4,h5,_⟩
    .have:=(ok.rb _ _ _ h2).1;omega
    .exact(ok.sf.tb l3 b h3).2.2.1 _ _ h2
    have:=ok.inj _ _ _ _ _ h5 h2
    subst this
    exact hnot h1 _ h3
   exact ok.inj _ _ _ _ _ h2 h2'
  .rw[hheap b (aci h ok.size) (λl o c h1 h2 h3=>by
    exact(ok.rw h3).elim (λ_=>by omega) hW) (λk l h1 h2=>(ok.sf.tb l b h2).1.2.nw.elim (λ_=>by omega) hW)]
   exact ok.block b h hW
  .obtain⟨b,c⟩:=x
   rcases e2c l b c h with⟨k,h1,h2⟩|⟨_,h2⟩
   .rcases split h1 with h7|h7
    .have hk:rsp k=true:=((hm2 _ (c9 h7)).1).resolve_left (by simp[hv])
     obtain⟨o2,q3,_,q4⟩:=hEc k _ (vo.pin k _ hk h2)
     rw[h7] at q3;cases q3
     exact ok.pin l _ hv q4
    have:=(hcu _ _ h7).2.2.1
    have h9:=GF hv
    grind
   exact ok.pin l _ hv h2
  .rcases vo.f0 b h with h|⟨h|h,_⟩
   .exact ok.ff b h
   .exact .inr (acR ok.size h)
   obtain⟨_,l,_,h⟩:=tP h;exact(ok.sf.tb l b h).1.2.nf
  .rcases vo.f0 b h with h|h
   .exact(ok.gc b h h').of_eq (hFh b h)
   exact h.2
  .rcases e2tc l b h with⟨k,h1,h2⟩|⟨h1,h2⟩
   .obtain⟨⟨k1,k2⟩,k3,k4,k5⟩:=vo.T k b h2
    refine⟨⟨k1,(oldT h2).elim (λh=>.inl (acR ok.size h)) (λ⟨_,l',_,h⟩=>(ok.sf.tb l' b h).1.2)⟩,k3,λo c ho=>?_,k5⟩
    rcases e2c o b c ho with⟨k',_,q2⟩|⟨_,q2⟩
    .exact k4 _ _ q2
    rcases oldT h2 with q|⟨_,l',_,q⟩
    .have:=(ok.rb _ _ _ q2).1;omega
    exact(ok.sf.tb l' b q).2.2.1 _ _ q2
   obtain⟨k1,k2,k3,k4⟩:=ok.sf.tb l b h2
   have hl0:cf (inv rm) l=none:=by
    cases hh:cf (inv rm) l with
    |none=>rfl
    |some k=>rw[rinv' (rlk (rof hh))] at h1;cases h1
   refine⟨⟨by omega,k1.2⟩,λhf=>?_,λo c ho=>?_,k4.of_eq (hTh l b hl0 h2)⟩
   .rcases vo.f0 b hf with hf|⟨hf|hf,_⟩
    .exact k2 hf
    .omega
    obtain⟨k,l',q1,q2⟩:=tP hf
    have:=ok.sf.tt _ _ _ h2 q2;subst this;rw[rinv q1] at hl0;cases hl0
   rcases e2c o b c ho with⟨k,_,q2⟩|⟨_,q2⟩
   .rcases oldB q2 with(h3|⟨k',l',q3,h3⟩)|⟨l2,o2,c2,h3,h4,h5,_⟩
    .omega
    .have:=ok.sf.tt _ _ _ h2 h3;subst this;rw[rinv q3] at hl0;cases hl0
    exact k3 _ _ h5
   exact k3 _ _ q2
  .rcases e2tc l b h with⟨k,h1,h2⟩|⟨h1,h2⟩<;>rcases e2tc l' b h' with⟨k',h1',h2'⟩|⟨h1',h2'⟩
   .have:=vo.tt _ _ _ h2 h2';subst this;rw[h1] at h1';exact Option.some.inj h1'
   .exfalso
    rcases oldT h2 with q|⟨j,l2,q1,q⟩
    .have:=(ok.sf.tb _ _ h2').1.1;omega
    have:=ok.sf.tt _ _ _ h2' q;subst this;rw[rinv' (rlk q1)] at h1';cases h1'
   .exfalso
    rcases oldT h2' with q|⟨j,l2,q1,q⟩
    .have:=(ok.sf.tb _ _ h2).1.1;omega
    have:=ok.sf.tt _ _ _ h2 q;subst this;rw[rinv' (rlk q1)] at h1;cases h1
   exact ok.sf.tt _ _ _ h2 h2'
  .obtain⟨k1,k2,k3,k4⟩:=ok.sf.zc b h
   refine⟨⟨k1.1,by omega,k1.2.2⟩,λhf=>?_,λo c ho=>?_,k4.of_eq (hZh b h)⟩
   .rcases vo.f0 b hf with hf|⟨hf|hf,_⟩
    .exact k2 hf
    .omega
    obtain⟨_,l,_,hf⟩:=tP hf;exact ok.sf.tz hf h
   rcases e2c o b c ho with⟨k,_,h2⟩|⟨_,h2⟩
   .rcases oldB h2 with(h3|⟨_,l,_,h3⟩)|⟨l2,o2,c2,h3,h4,h5,_⟩
    .omega
    .exact ok.sf.tz h3 h
    exact k3 _ _ h5
   exact k3 _ _ h2
  exact(ok.sf.zs b h).trans (.of_eq (hZh b h))
 have hHm:∀(g:Bool) b,E.H g b->E2.H g b:=λg b h=>by cases g;exact vo.F b h;exact vo.G b h
 have hT2:∀l b,cf (inv rm) l=ξ->l<nx->E.T l b->E2.T l b:=λl b h0 h1 h=>by rw[e2t0 (rnone h0 h1)];exact h
 have hHh':∀(g:Gr) b,g.okR (inv rm)=ζ->E.H g b->w'.heap[b]?=w.heap[b]?:=λg b hg h=>by
  cases g with
  |b g=>exact hHh g b h
  |s n=>exact hTh n b (rS hg) h
  |t n=>exact hTh n b (rS hg) h
 have hHm':∀(g:Gr) b,g.okR (inv rm)=ζ->g.lt nx->E.H g b->E2.H g b:=λg b hg hl h=>by
  cases g with
  |b g=>exact hHm g b h
  |s n=>exact hT2 n b (rS hg) hl h
  |t n=>exact hT2 n b (rS hg) hl h
 have hgk:∀{g:Gr} {x:D} {u:Value},g.okR (inv rm)=ζ->g.lt nx->gD E w g x u->gD E2 w' g x u:=λ{g x u} hg hl h=>by
  cases g with
  |b g=>exact bQ (λb hb=>hHh' (.b g) b rfl hb) (λb hb=>hHm' (.b g) b rfl trivial hb) x u h
  |s n=>exact bQ (F:=E.T n) (λb hb=>hTh n b (rS hg) hb) (λb hb=>hT2 n b (rS hg) hl hb) x u h
  |t n=>exact h.keep (λb hb=>hTh n b (rS hg) hb) (λb hb=>hT2 n b (rS hg) hl hb)
 have hrg:∀{g:Gr} {els:Lad} {b:Nat},g.okR (inv rm)=ζ->g.lt nx->w'.heap[b]?=w.heap[b]?->uf E w els b g->uf E2 w' els b g:=λ{g els b} hg hl hb h=>by
  cases g with
  |b g=>trivial
  |s n=>exact dJ.keep h hb (λb hb=>hTh n b (rS hg) hb) (λb hb=>hT2 n b (rS hg) hl hb)
  |t n=>exact dJ.keep h hb (λb hb=>hTh n b (rS hg) hb) (λb hb=>hT2 n b (rS hg) hl hb)
 have hkv:∀c c' u,c.lt nx=ζ->xm (inv rm) (inv m) c=ς c'->cvC E w c u->cvC E2 w' c' u:=by
  intro c c' u hl h hc
  have hnone:∀{l},cf (inv m) l=ξ->l<nx->cf (inv (m++nl)) l=none:=λh1 h2=>none_of (λk h3=>by grind) h2
  cases c with
  |d g x=>
   simp only[xm] at h
   split at h
   .rename_i hg;cases h;exact hgk hg (ltC_gr hl) hc
   cases h;trivial
  |w l n=>
   simp only[xm] at h
   split at h
   .rename_i k h1
    split at h
    .rename_i hp
     cases h
     obtain⟨b,c,h3,h4⟩:=hc
     have h5:=of_inv h1
     have hv2:Ky ys k=true:=((hm2 _ (c9 h5)).2.1).resolve_left (by simp[hp])
     obtain⟨⟨b1,c1⟩,q1⟩:=Hs hv2 hY
     obtain⟨o2,q3,_,q4⟩:=hEc k _ (vo.pin k _ hp q1)
     rw[h5] at q3;cases q3
     rw[h3] at q4;cases q4
     exact⟨b,c,by rw[e2r (look_m h5)];exact q1,h4⟩
    cases h;trivial
   rename_i h1;cases h
   obtain⟨b,c,h3,h4⟩:=hc
   exact⟨b,c,by rw[e2r0 (hnone h1 (bV hl))];exact h3,h4⟩
  |wn l n=>
   simp only[xm,kvC] at h
   split at h
   .cases h;trivial
   rename_i h1;cases h
   have h2:=hnone h1 (bV hl)
   rcases hc with⟨h3,h4⟩|⟨h3,b,c,h4,h5⟩
   .exact .inl ⟨(e2n0 h2).2 h3,h4⟩
   exact .inr ⟨λh=>h3 ((e2n0 h2).1 h),b,c,by grind,h5⟩
  |s l a1 a2 a3=>
   simp only[xm,kvC] at h
   split at h
   .cases h;trivial
   rename_i h1;cases h
   obtain⟨A,c,b,k,h3,h4⟩:=hc
   exact⟨A,c,b,k,by rw[e2r0 (hnone h1 (bV hl))];exact h3,h4⟩
  |e l a1 a2 a3=>
   simp only[xm,kvC] at h
   split at h
   .cases h;trivial
   rename_i h1;cases h
   obtain⟨b,c,h3,h4⟩:=hc
   exact⟨b,c,by rw[e2r0 (hnone h1 (bV hl))];exact h3,h4⟩
  |p l j=>
   simp only[xm,kvC] at h
   split at h
   .rename_i k h1
    split at h
    .rename_i hp
     cases h
     obtain⟨b,c,h3,h4⟩:=hc
     have h5:=of_inv h1
     have hv2:Ky ys k=true:=((hm2 _ (c9 h5)).2.1).resolve_left (by simp[hp])
     obtain⟨⟨b1,c1⟩,q1⟩:=Hs hv2 hY
     obtain⟨o2,q3,_,q4⟩:=hEc k _ (vo.pin k _ hp q1)
     rw[h5] at q3;cases q3
     rw[h3] at q4;cases q4
     exact⟨b,c,by rw[e2r (look_m h5)];exact q1,h4⟩
    cases h;trivial
   rename_i h1;cases h
   obtain⟨b,c,h3,h4⟩:=hc
   exact⟨b,c,by rw[e2r0 (hnone h1 (bV hl))];exact h3,h4⟩
  |q g y j=>
   simp only[xm] at h
   split at h
   .rename_i hg;cases h
    obtain⟨b,k,h1,h2,h3⟩:=hc
    have hl:=abV hl
    exact⟨b,k,h1,hHm' g b hg hl h2,rdL_mono (λb=>hHh' g b hg) (λb=>hHm' g b hg hl) y b k h2 h3⟩
   cases h;trivial
  |fn f=>simp only[xm,kvC] at h;cases h;exact hc
  |nil=>simp only[xm,kvC] at h;cases h;exact hc
  |any=>simp only[xm,kvC] at h;cases h;trivial
  |r l x=>
   simp only[xm] at h
   split at h
   .rename_i hg;cases h;exact bQ (F:=E.T l) (λb hb=>hTh l b (rS (g:=.s l) hg) hb) (λb hb=>hT2 l b (rS (g:=.s l) hg) (bV hl) hb) x u hc
   cases h;trivial
  |z x=>simp only[xm,kvC] at h;cases h;exact ug (λb hb=>.of_eq (hZh b (ok.sf.ze b hb))) (λb hb=>hb) x u hc
  |zq x j=>
   simp only[xm,kvC] at h;cases h
   obtain⟨b,k,h1,h2,h3⟩:=hc
   exact⟨b,k,h1,h2,rsL_mono (λb hb=>.of_eq (hZh b (ok.sf.ze b hb))) (λb hb=>hb) x b k h2 h3⟩
 have hrl:∀c c' u,Ch (rm++nr) (m++nl) c=ς c'->cvC E' w' c u->cvC E2 w' c' u:=by
  intro c c' u h hc
  cases c with
  |w l n=>
   simp only[Ch,rlC] at h
   split at h
   .rename_i k h1;cases h
    obtain⟨b,c,h3,h4⟩:=hc
    exact⟨b,c,by grind,h4⟩
   cases h
  |wn l n=>
   simp only[Ch,rlC] at h
   split at h
   .rename_i k h1;cases h
    rcases hc with⟨h3,h4⟩|⟨h3,b,c,h4,h5⟩
    .exact .inl ⟨(e2n h1).2 h3,h4⟩
    exact .inr ⟨λh=>h3 ((e2n h1).1 h),b,c,by grind,h5⟩
   cases h
  |p l n=>
   simp only[Ch,rlC] at h
   split at h
   .rename_i k h1;cases h
    obtain⟨b,c,h3,h4⟩:=hc
    exact⟨b,c,by grind,h4⟩
   cases h
  |s l x y z=>
   simp only[Ch,rlC] at h
   split at h
   .rename_i k h1;cases h
    obtain⟨A,q,b,c,h3,h4⟩:=hc
    exact⟨A,q,b,c,by grind,h4⟩
   cases h
  |d g x=>
   simp only[Ch] at h
   split at h
   .rename_i g' h1;cases h
    cases g with
    |b g=>simp only[Gr.rl,Option.some.injEq] at h1;subst h1;cases g<;>exact hc
    |s l=>
     simp only[Gr.rl] at h1;split at h1
     .rename_i k h2;cases h1;exact bQ (F:=E'.T l) (F':=E2.T k) (λ_ _=>rfl) (λb hb=>by rw[e2t h2];exact hb) x u hc
     cases h1
    |t l=>
     simp only[Gr.rl] at h1;split at h1
     .rename_i k h2;cases h1;exact fw.keep (x:=x) hc (λ_ _=>rfl) (λb hb=>by rw[e2t h2];exact hb)
     cases h1
   cases h
  |nil=>simp only[Ch,rlC] at h;cases h;exact hc
  |any=>simp only[Ch,rlC] at h;cases h;trivial
  |fn f=>simp only[Ch,rlC] at h;cases h;exact hc
  |_=>simp only[Ch,rlC] at h;cases h
 have hrel:∀{k o:Nat} {y y':Ob},cf (m++nl) k=ς o->ue (rm++nr) (Ch (rm++nr) (m++nl)) y=ς y'->cN E' w' k y->cN E2 w' o y':=λh1 h2 h3=>
  Po h2 hrl (λb c _ h=>by rw[e2r h1];exact h) (e2n h1) (λg b h=>by cases g<;>exact h) (λl k h b hb=>by rw[e2t h];exact hb) (λb c _ _ h=>h) h3
 refine⟨E2,okE,λl x h=>?_,λl y hl=>?_,λk=>?_,hR.dfr,by simpa [Act.put] using hR.size,λl b h=>?_⟩
 .obtain⟨b,c⟩:=x
  rcases e2c l b c h with⟨k,h1,_⟩|⟨_,h2⟩
  .rcases split h1 with h3|h3
   .exact aci (mrs h3).2 (acR hnn hnn')
   grind
  exact aci (hR.dom l _ h2) (acR hnn hnn')
 .rcases LN hl with h|⟨_,h⟩
  .obtain⟨k,y0,h1,h2,h3⟩:=ES linj' hw h
   exact hrel h1 h3 (hNW _ _ h2)
  rcases LN h with h|⟨h0,h⟩
  .obtain⟨k,y0,h1,h2,h3⟩:=ES linj' hy h
   exact hrel h1 h3 (hY _ _ h2)
  .
    have hnm:∀k,cf m k≠ς l:=λk h1=>by
     have h2:=(hm2 _ (c9 h1)).2.2
     cases h3:go ys k with
     |none=>grind
     |some y0=>
      obtain⟨o,h4,h5⟩:=Fo hy h3
      grind
    have hno:∀b c,E.r l=ς (b,c)->w'.heap[b]?=w.heap[b]?:=λb c hr=>hheap b (ok.rb l b c hr).1 (λl' o' c' h1 _ h3=>by
     have:=ok.inj _ _ _ _ _ hr h3
     subst this
     exact hnm _ h1) (λ_ l2 _ h=>(ok.sf.tb l2 b h).2.2.1 _ _ hr)
    have hFn:∀b c,E.r l=ς (b,c)->¬E.F b->¬E2.F b:=λb c hr hn hf=>(vo.f0 b hf).elim hn (λh=>h.1.elim (λh=>by have:=(ok.rb l b c hr).1;omega) (λh=>(tP h).elim λ_ ⟨l2,_,h⟩=>(ok.sf.tb l2 b h).2.2.1 _ _ hr))
    rcases u9 hb h with⟨t,cs,cs',g1,g2,rfl⟩|⟨x0,g1,g2,g3⟩
    .obtain⟨hln,hxl⟩:=t0 hol g1
     have e1:=e2r0 (none_of hnm hln)
     obtain⟨b,c,arr,k1,k2,k3,k4⟩:=hR.obs l _ g1
     refine⟨b,c,arr,by grind,(hno b c k1).trans k2,?_,hFn b c k1 k4⟩
     have key:∀(cs cs':List C) (us:Lae),cs.all (C.lt nx)=ζ->lp (xm (inv rm) (inv m)) cs=ς cs'->CV E w cs us->CV E2 w' cs' us:=by
      intro cs
      induction cs with
      |nil=>intro cs' us _ h hc;simp[lp] at h;subst h;cases us with
       |nil=>trivial
       |cons _ _=>exact hc.elim
      |cons c cs ih=>
       intro cs' us hl h hc
       simp only[List.all_cons,f4] at hl
       cases us with
       |nil=>exact hc.elim
       |cons u us=>
        simp only[lp] at h
        split at h
        .rename_i h1 h2;simp at h;subst h;exact⟨hkv _ _ _ hl.1 h1 hc.1,ih _ _ hl.2 h2 hc.2⟩
        cases h
     exact key _ _ _ hxl g2 k3
    have hil:cf (inv m) l=none:=by
     cases hh:cf (inv m) l with
     |none=>rfl
     |some k=>exact absurd (of_inv hh) (hnm k)
    obtain⟨rfl,hokr⟩:=abE hil g3
    obtain⟨hln,hxl⟩:=t0 hol g1
    have e1:=e2r0 (none_of hnm hln)
    have e3:=e2n0 (none_of hnm hln)
    have hx0:=hR.obs l _ g1
    cases y with
    |var t cs=>exact absurd rfl (g2 t cs)
    |row t sz els g mm=>
     obtain⟨b,c,arr,k1,k2,k3,k4,k5,k6,k7,k8,k9⟩:=hx0
     exact⟨b,c,arr,by grind,(hno b c k1).trans k2,k3,k4,k5,k6,bP (λb=>hHh' g b hokr) (λb=>hHm' g b hokr (Tc hxl)) (hno b c k1) _ _ k7,λhm=>hFn b c k1 (k8 hm),λhm=>⟨hHm η b (k9.1 hm).1,λhg=>hHm ζ b ((k9.1 hm).2 hg)⟩,hrg hokr (Tc hxl) (hno b c k1) k9.2⟩
    |rown t sz els g=>
     rcases hx0 with⟨k1,k2⟩|⟨k0,b,c,arr,k1,k2,k3,k4,k5,k6,k7,k8⟩
     .exact .inl ⟨e3.2 k1,k2⟩
     exact .inr ⟨λh=>k0 (e3.1 h),b,c,arr,by grind,(hno b c k1).trans k2,k3,k4,k5,k6,bP (λb=>hHh' g b hokr) (λb=>hHm' g b hokr (Oy hxl)) (hno b c k1) _ _ k7,hFn b c k1 k8.1,hrg hokr (Oy hxl) (hno b c k1) k8.2⟩
    |abs j z=>
     rcases hx0 with⟨k1,k2⟩|⟨k0,b,c,k1,k2,k3⟩
     .exact .inl ⟨e3.2 k1,k2⟩
     exact .inr ⟨λh=>k0 (e3.1 h),b,c,by grind,z.st _ _ _ _ _ _ k2 (λk hk=>hT2 j k (rS (g:=.s j) hokr) (bV hxl) hk) (hno b c k1) (λk hk=>hTh j k (rS (g:=.s j) hokr) hk),hFn b c k1 k3⟩
 .rw[ef (by rw[hR.size];exact bV hN)]
  by_cases hdk:d=k
  .subst hdk;rw[da,if_pos rfl];exact Df hrl ho hv
  rw[ck _ _ hdk,if_neg hdk]
  rw[<-L6 hsl] at hs
  refine AT (λc c' u h hc=>?_) hs (hR.sl k)
  unfold ltF at h
  cases hl:c.lt nx with
  |true=>grind
  |false=>rw[hl] at h;cases h;trivial
 rcases e2tc l b h with⟨k,h1,h2⟩|⟨h1,h2⟩
 .rcases rsplit h1 with h3|h3
  .exact aci (rrs h3).2 (acR hnn hnn')
  exact(hru _ _ h3).2
 exact aci (hR.td l b h2) (acR hnn hnn')
theorem cvt{d:Tmp}{ty:TypeId}{ps:String}{af:Array Edge}{gd:Option (Nat×Bool)}{args:List Operand}{tys:Array TypeId}{ob ob1 ob2:Laa}{ts ts':List T}{xs ys ys' nw nw':Laa}{out out':T}(up:Bool)(m nl rm nr:Lac)(n n':Nat)(hF:FnV P f xs ts' ys out nw)(ht:pH sl args=ς ts:=by exact rfl)(ha:tU (Nj (inv rm) up ob (inv m)) ts=ς ts':=by exact rfl)(hx:zK (inv rm) (inv m) ob m=ς xs:=by exact rfl)(hm:mOKT m nl nx n ys=true:=by exact rfl)(hrm:rmOK rm nr nx n n'=true:=by exact rfl)(hs:pZ (xm (inv rm) (inv m)) sl=ς sl':=by exact rfl)(hb:nL (xm (inv rm) (inv m)) (kvOT (inv rm) (inv m)) ob=ς ob':=by exact rfl)(hy:vN (rm++nr) (m++nl) ys=ς ys':=by exact rfl)(hw:vN (rm++nr) (m++nl) nw=ς nw':=by exact rfl)(ho:xP (Ch (rm++nr) (m++nl)) out=ς out':=by exact rfl)(hsl:Al nx sl=true:=by exact rfl)(hol:tZ nx ob=true:=by exact rfl)(hN:nlt d N=true:=by exact rfl)(h1:apO ys' ob'=ς ob1:=by exact rfl)(h2:apO nw' ob1=ς ob2:=by exact rfl):
 AWO P N ⟨ς d,.call ⟨.value (.func f),args.toArray,tys⟩,ty,ps,af,gd⟩ ⟨sl,ob,nx⟩ ⟨(d,out')::sl',ob2,n'⟩:=by
 rw[ti h2,ti h1]
 exact YI hF ht ha hx hm hrm hs hb hy hw ho hsl hol hN
def rcU(w:World)(G:Nat->Prop)(T:Nat->Nat->Prop)(base:Nat):RC->Value->Lac->Prop
 | .d x,u,bs=>bs=[]/\rdD w G x u
 | .own ty sz els n,u,bs=>∃b c arr,bs=[(b,c)]/\u= .slice (ς ⟨b,0,ξ⟩) n c/\w.heap[b]?=ς (.cells arr ty (0,0))/\arr.size=c*sz/\els.length<=c/\c<=maxLen/\
  (∀e∈els,e.length=sz)/\dJ w (T b) els b/\¬G b/\base<=b
 | .nil,u,bs=>bs=[]/\u= .slice ξ 0 0
def Pd(w:World)(G:Nat->Prop)(T:Nat->Nat->Prop)(base:Nat):List RC->Lae->Lac->Prop
 |[],[],bs=>bs=[]
 |r::rs,u::us,bs=>∃b1 b2,bs=b1++b2/\rcU w G T base r u b1/\Pd w G T base rs us b2
 |_,_,_=>False
def rvU(w:World)(G:Nat->Prop)(T:Nat->Nat->Prop)(base:Nat):RV->Value->Lac->Prop
 | .c r,u,bs=>rcU w G T base r u bs
 | .agg rs,u,bs=>∃arr,u= .agg arr/\Pd w G T base rs arr.toList bs
def J3(w:World)(G:Nat->Prop)(T:Nat->Nat->Prop)(base:Nat):List RV->Lae->Lac->Prop
 |[],[],bs=>bs=[]
 |r::rs,u::us,bs=>∃b1 b2,bs=b1++b2/\rvU w G T base r u b1/\J3 w G T base rs us b2
 |_,_,_=>False
def VE(w:World)(G:Nat->Prop)(T:Nat->Nat->Prop)(base:Nat):List RV->Value->Lac->Prop
 |[r],v,bs=>rvU w G T base r v bs
 |rs,v,bs=>∃arr,v= .tuple arr/\J3 w G T base rs arr.toList bs
theorem Y6{G:Nat->Prop}{T:Nat->Nat->Prop}{base:Nat}{bs:Lac}(h:rcU w G T base r u bs):∀p∈bs,base<=p.1/\p.1<w.heap.size:=by
 cases r with
 |d x=>obtain⟨rfl,_⟩:=h;simp
 |own ty sz els n=>
  obtain⟨b,c,arr,rfl,_,hh,_,_,_,_,_,_,hb⟩:=h
  grind
 |nil=>obtain⟨rfl,_⟩:=h;simp
theorem TB{w:World}{G:Nat->Prop}{T:Nat->Nat->Prop}{base:Nat}:∀{rs:List RC} {us:Lae} {bs:Lac},Pd w G T base rs us bs->∀p∈bs,base<=p.1/\p.1<w.heap.size
 |[],[],bs,h=>by have:bs=[]:=h;simp_all
 |r::rs,u::us,bs,h=>λp hp=>by
  obtain⟨b1,b2,rfl,h1,h2⟩:=h
  rcases aau.1 hp with h|h
  .exact Y6 h1 p h
  exact TB h2 p h
 |[],_::_,_,h=>h.elim
 |_::_,[],_,h=>h.elim
theorem Zo{G:Nat->Prop}{T:Nat->Nat->Prop}{base:Nat}{r:RV}{bs:Lac}(h:rvU w G T base r u bs):∀p∈bs,base<=p.1/\p.1<w.heap.size:=by
 cases r with
 |c r=>exact Y6 h
 |agg rs=>obtain⟨_,_,h⟩:=h;exact TB h
theorem MF{w:World}{G:Nat->Prop}{T:Nat->Nat->Prop}{base:Nat}:∀{rs:List RV} {us:Lae} {bs:Lac},J3 w G T base rs us bs->∀p∈bs,base<=p.1/\p.1<w.heap.size
 |[],[],bs,h=>by have:bs=[]:=h;simp_all
 |r::rs,u::us,bs,h=>λp hp=>by
  obtain⟨b1,b2,rfl,h1,h2⟩:=h
  rcases aau.1 hp with h|h
  .exact Zo h1 p h
  exact MF h2 p h
 |[],_::_,_,h=>h.elim
 |_::_,[],_,h=>h.elim
theorem acw{G:Nat->Prop}{T:Nat->Nat->Prop}{base:Nat}{rs:List RV}{bs:Lac}(h:VE w G T base rs u bs):∀p∈bs,base<=p.1/\p.1<w.heap.size:=by
 match rs,h with
 |[r],h=>exact Zo h
 |[],h=>obtain⟨_,_,h⟩:=h;exact MF h
 |_::_::_,h=>obtain⟨_,_,h⟩:=h;exact MF h
def KC(nx:Nat):RC->Option (C×Laa×Nat)
 | .d (.i k n)=>ς (.d η (.i k n),[],nx)
 | .d (.b x)=>ς (.d η (.b x),[],nx)
 | .d (.str s)=>ς (.d η (.str s),[],nx)
 | .d (.l xs)=>ς (.d ζ (.l xs),[],nx)
 | .d (.k _ _ _)=>ξ
 | .own ty sz els n=>ς (.w nx n,[(nx,.row ty sz els (.s nx) ζ)],nx+1)
 | .nil=>ς (.nil,[],nx)
def HO(nx:Nat):List RC->Option (List C×Laa×Nat)
 |[]=>ς ([],[],nx)
 |r::rs=>match KC nx r with
  |some (c,b,n)=>match HO n rs with
   |some (cs,bs,m)=>ς (c::cs,b++bs,m)
   |none=>ξ
  |none=>ξ
def N8(nx:Nat):RV->Option (V×Laa×Nat)
 | .c r=>match KC nx r with
  |some (c,b,n)=>ς (.c c,b,n)
  |none=>ξ
 | .agg rs=>match HO nx rs with
  |some (c,b,n)=>ς (.agg c,b,n)
  |none=>ξ
def HP(nx:Nat):List RV->Option (List V×Laa×Nat)
 |[]=>ς ([],[],nx)
 |r::rs=>match N8 nx r with
  |some (c,b,n)=>match HP n rs with
   |some (cs,bs,m)=>ς (c::cs,b++bs,m)
   |none=>ξ
  |none=>ξ
def KE(nx:Nat):List RV->Option (T×Laa×Nat)
 |[r]=>match N8 nx r with
  |some (v,b,n)=>ς (.v v,b,n)
  |none=>ξ
 |rs=>match HP nx rs with
  |some (v,b,n)=>ς (.tup v,b,n)
  |none=>ξ
theorem Kg{T:Nat->Nat->Prop}{b1 b2:Lac}(hb:∀(i:Nat) (p:Nat×Nat),(b1++b2)[i]?=ς p->E.r (nx+i)=ς p/\∀k,T p.1 k->E.T (nx+i) k):
 (∀(i:Nat) (p:Nat×Nat),b1[i]?=ς p->E.r (nx+i)=ς p/\∀k,T p.1 k->E.T (nx+i) k)/\∀(i:Nat) (p:Nat×Nat),b2[i]?=ς p->E.r (nx+b1.length+i)=ς p/\∀k,T p.1 k->E.T (nx+b1.length+i) k:=by
 refine⟨λi p hi=>hb i p ?_,λi p hi=>?_⟩
 .rw[aa8 (f5.1 hi).1];exact hi
 have:=hb (b1.length+i) p (by rw[aa3 oaa];simpa using hi)
 rwa [<-Nat.add_assoc] at this
section
variable{E:Env}{w:World}{G:Nat->Prop}{T:Nat->Nat->Prop}{base:Nat}(hG:∀b,G b->E.G b)(hnF:∀b:Nat,base<=b->¬G b->¬E.F b)
include hG hnF
theorem N4{bs:Lac}{c:C}{nw:Laa}(h:KC nx r=ς (c,nw,n))(hr:rcU w G T base r u bs)(hb:∀(i:Nat) (p:Nat×Nat),bs[i]?=ς p->E.r (nx+i)=ς p/\∀k,T p.1 k->E.T (nx+i) k):
 cvC E w c u/\Imp E w nx n bs nw:=by
 cases r with
 |d x=>
  obtain⟨rfl,hr⟩:=hr
  cases x<;>simp[KC] at h<;>obtain⟨rfl,rfl,rfl⟩:=h<;>refine⟨?_,⟨rfl,by simp,λl h1 h2=>by omega⟩⟩
  .simp_all[cvC,gD,rdD]
  .simp_all[cvC,gD,rdD]
  .simp_all[cvC,gD,rdD]
  exact bQ (λ_ _=>rfl) hG _ _ hr
 |own ty sz els n'=>
  obtain⟨b,cc,arr,rfl,rfl,hh,ha,hlc,hmx,hes,hrd,hgb,hbb⟩:=hr
  simp[KC] at h;obtain⟨rfl,rfl,rfl⟩:=h
  obtain⟨this,hTT⟩:=hb 0 (b,cc) rfl
  rw[adC] at this hTT
  refine⟨⟨b,cc,this,rfl⟩,⟨rfl,λl x hm=>?_,λl h1 h2=>⟨.row ty sz els (.s nx) ζ,by
   have e:l=nx:=by have:[(b,cc)].length=1:=rfl;omega
   rw[e];exact .head _⟩⟩⟩
  simp at hm;obtain⟨rfl,rfl⟩:=hm
  exact⟨⟨b,cc,arr,this,hh,ha,hlc,hmx,hes,(hrd.keep rfl (λ_ _=>rfl) hTT).rdT,λ_=>hnF b hbb hgb,(λh=>by cases h),hrd.keep rfl (λ_ _=>rfl) hTT⟩,by omega,by omega⟩
 |nil=>
  obtain⟨rfl,hr⟩:=hr
  simp[KC] at h;obtain⟨rfl,rfl,rfl⟩:=h
  exact⟨hr,⟨rfl,by simp,λl h1 h2=>by omega⟩⟩
theorem KD:∀{rs:List RC} {us:Lae} {bs:Lac} {nx n:Nat} {cs:List C} {nw:Laa},HO nx rs=ς (cs,nw,n)->Pd w G T base rs us bs->(∀(i:Nat) (p:Nat×Nat),bs[i]?=ς p->E.r (nx+i)=ς p/\∀k,T p.1 k->E.T (nx+i) k)->
 CV E w cs us/\Imp E w nx n bs nw
 |[],us,bs,nx,n,cs,nw,h,hr,hb=>by
  simp[HO] at h;obtain⟨rfl,rfl,rfl⟩:=h
  cases us with
  |nil=>have:bs=[]:=hr;subst this;exact⟨θ,⟨rfl,by simp,λl h1 h2=>by omega⟩⟩
  |cons _ _=>exact hr.elim
 |r::rs,us,bs,nx,n,cs,nw,h,hr,hb=>by
  cases us with
  |nil=>exact hr.elim
  |cons u us=>
   obtain⟨b1,b2,rfl,hr1,hr2⟩:=hr
   simp only[HO] at h
   split at h
   .rename_i c nw1 n1 h1
    split at h
    .rename_i cs2 nw2 n2 h2
     simp at h;obtain⟨rfl,rfl,rfl⟩:=h
     obtain⟨hb1,hb2⟩:=Kg hb
     obtain⟨k1,k2⟩:=N4 hG hnF h1 hr1 hb1
     have hn1:=k2.1
     subst hn1
     obtain⟨m1,m2⟩:=KD h2 hr2 hb2
     exact⟨⟨k1,m1⟩,k2.join m2⟩
    cases h
   cases h
theorem N9{r:RV}{bs:Lac}{nw:Laa}(h:N8 nx r=ς (v,nw,n))(hr:rvU w G T base r u bs)(hb:∀(i:Nat) (p:Nat×Nat),bs[i]?=ς p->E.r (nx+i)=ς p/\∀k,T p.1 k->E.T (nx+i) k):
 cvV E w v u/\Imp E w nx n bs nw:=by
 cases r with
 |c r=>
  simp only[N8] at h
  split at h
  .rename_i h1;simp at h;obtain⟨rfl,rfl,rfl⟩:=h;exact N4 hG hnF h1 hr hb
  cases h
 |agg rs=>
  simp only[N8] at h
  split at h
  .rename_i h1;simp at h;obtain⟨rfl,rfl,rfl⟩:=h
   obtain⟨arr,hu,hr⟩:=hr
   obtain⟨k1,k2⟩:=KD hG hnF h1 hr hb
   exact⟨⟨arr,hu,k1⟩,k2⟩
  cases h
theorem Ep:∀{rs:List RV} {us:Lae} {bs:Lac} {nx n:Nat} {cs:List V} {nw:Laa},HP nx rs=ς (cs,nw,n)->J3 w G T base rs us bs->(∀(i:Nat) (p:Nat×Nat),bs[i]?=ς p->E.r (nx+i)=ς p/\∀k,T p.1 k->E.T (nx+i) k)->
 VV E w cs us/\Imp E w nx n bs nw
 |[],us,bs,nx,n,cs,nw,h,hr,hb=>by
  simp[HP] at h;obtain⟨rfl,rfl,rfl⟩:=h
  cases us with
  |nil=>have:bs=[]:=hr;subst this;exact⟨θ,⟨rfl,by simp,λl h1 h2=>by omega⟩⟩
  |cons _ _=>exact hr.elim
 |r::rs,us,bs,nx,n,cs,nw,h,hr,hb=>by
  cases us with
  |nil=>exact hr.elim
  |cons u us=>
   obtain⟨b1,b2,rfl,hr1,hr2⟩:=hr
   simp only[HP] at h
   split at h
   .rename_i c nw1 n1 h1
    split at h
    .rename_i cs2 nw2 n2 h2
     simp at h;obtain⟨rfl,rfl,rfl⟩:=h
     obtain⟨hb1,hb2⟩:=Kg hb
     obtain⟨k1,k2⟩:=N9 hG hnF h1 hr1 hb1
     have hn1:=k2.1
     subst hn1
     obtain⟨m1,m2⟩:=Ep h2 hr2 hb2
     exact⟨⟨k1,m1⟩,k2.join m2⟩
    cases h
   cases h
theorem N7{rs:List RV}{bs:Lac}{t:AM.T}{nw:Laa}(h:KE nx rs=ς (t,nw,n))(hr:VE w G T base rs u bs)(hb:∀(i:Nat) (p:Nat×Nat),bs[i]?=ς p->E.r (nx+i)=ς p/\∀k,T p.1 k->E.T (nx+i) k):
 cvT E w t u/\Imp E w nx n bs nw:=by
 match rs,h,hr with
 |[r],h,hr=>
  simp only[KE] at h
  split at h
  .rename_i h1;simp at h;obtain⟨rfl,rfl,rfl⟩:=h;exact N9 hG hnF h1 hr hb
  cases h
 |[],h,hr=>
  simp only[KE] at h
  split at h
  .rename_i h1;simp at h;obtain⟨rfl,rfl,rfl⟩:=h
   obtain⟨arr,hu,hr⟩:=hr
   obtain⟨k1,k2⟩:=Ep hG hnF h1 hr hb
   exact⟨⟨arr,hu,k1⟩,k2⟩
  cases h
 |r1::r2::rs,h,hr=>
  simp only[KE] at h
  split at h
  .rename_i h1;simp at h;obtain⟨rfl,rfl,rfl⟩:=h
   obtain⟨arr,hu,hr⟩:=hr
   obtain⟨k1,k2⟩:=Ep hG hnF h1 hr hb
   exact⟨⟨arr,hu,k1⟩,k2⟩
  cases h
end
section
variable{w:World}{G:Nat->Prop}{T T':Nat->Nat->Prop}{base:Nat}
theorem rcU_T{bs:Lac}(h:rcU w G T base r u bs)(hT:∀b c,(b,c)∈bs->∀k,T b k->T' b k):rcU w G T' base r u bs:=by
 cases r with
 |d x=>exact h
 |own ty sz els n=>
  obtain⟨b,c,arr,rfl,h1,h2,h3,h4,h5,h6,h7,h8⟩:=h
  exact⟨b,c,arr,rfl,h1,h2,h3,h4,h5,h6,h7.keep rfl (λ_ _=>rfl) (hT b c (.head _)),h8⟩
 |nil=>exact h
theorem Y9:∀{rs:List RC} {us:Lae} {bs:Lac},Pd w G T base rs us bs->(∀b c,(b,c)∈bs->∀k,T b k->T' b k)->Pd w G T' base rs us bs
 |[],[],bs,h,_=>h
 |r::rs,u::us,bs,⟨b1,b2,e,h1,h2⟩,hT=>⟨b1,b2,e,rcU_T h1 (λb c hm=>hT b c (by rw[e];exact aau.2 (.inl hm))),Y9 h2 (λb c hm=>hT b c (by rw[e];exact aau.2 (.inr hm)))⟩
 |[],_::_,_,h,_=>h.elim
 |_::_,[],_,h,_=>h.elim
theorem rvU_T{r:RV}{bs:Lac}(h:rvU w G T base r u bs)(hT:∀b c,(b,c)∈bs->∀k,T b k->T' b k):rvU w G T' base r u bs:=by
 cases r with
 |c r=>exact rcU_T h hT
 |agg rs=>obtain⟨arr,e,h⟩:=h;exact⟨arr,e,Y9 h hT⟩
theorem Zr:∀{rs:List RV} {us:Lae} {bs:Lac},J3 w G T base rs us bs->(∀b c,(b,c)∈bs->∀k,T b k->T' b k)->J3 w G T' base rs us bs
 |[],[],bs,h,_=>h
 |r::rs,u::us,bs,⟨b1,b2,e,h1,h2⟩,hT=>⟨b1,b2,e,rvU_T h1 (λb c hm=>hT b c (by rw[e];exact aau.2 (.inl hm))),Zr h2 (λb c hm=>hT b c (by rw[e];exact aau.2 (.inr hm)))⟩
 |[],_::_,_,h,_=>h.elim
 |_::_,[],_,h,_=>h.elim
end
section
variable{w:World}{G G':Nat->Prop}{T:Nat->Nat->Prop}{base:Nat}(hG:∀b,G b->G' b)
include hG
theorem rcU_R{bs:Lac}(h:rcU w G T base r u bs)(hT:∀p∈bs,∀k,T p.1 k->G' k)(hn:∀p∈bs,(G' p.1->G p.1)):rcR w G' base r u bs:=by
 cases r with
 |d x=>exact⟨h.1,bQ (λ_ _=>rfl) hG x u h.2⟩
 |own ty sz els n=>
  obtain⟨b,c,arr,rfl,h1,h2,h3,h4,h5,h6,h7,h8,h9⟩:=h
  have h10:dJ w G' els b:=h7.keep rfl (λ_ _=>rfl) (hT (b,c) (.head _))
  exact⟨b,c,arr,rfl,h1,h2,h3,h4,h5,h6,h10.rdT,λk=>h8 (hn (b,c) (.head _) k),h9⟩
 |nil=>exact h
theorem Y8:∀{rs:List RC} {us:Lae} {bs:Lac},Pd w G T base rs us bs->(∀p∈bs,∀k,T p.1 k->G' k)->(∀p∈bs,(G' p.1->G p.1))->My w G' base rs us bs
 |[],[],bs,h,_,_=>h
 |r::rs,u::us,bs,⟨b1,b2,e,h1,h2⟩,hT,hn=>⟨b1,b2,e,rcU_R hG h1 (λp hm=>hT p (by rw[e];exact aau.2 (.inl hm))) (λp hm=>hn p (by rw[e];exact aau.2 (.inl hm))),Y8 h2 (λp hm=>hT p (by rw[e];exact aau.2 (.inr hm))) (λp hm=>hn p (by rw[e];exact aau.2 (.inr hm)))⟩
 |[],_::_,_,h,_,_=>h.elim
 |_::_,[],_,h,_,_=>h.elim
theorem rvU_R{r:RV}{bs:Lac}(h:rvU w G T base r u bs)(hT:∀p∈bs,∀k,T p.1 k->G' k)(hn:∀p∈bs,(G' p.1->G p.1)):rvR w G' base r u bs:=by
 cases r with
 |c r=>exact rcU_R hG h hT hn
 |agg rs=>obtain⟨arr,e,h⟩:=h;exact⟨arr,e,Y8 hG h hT hn⟩
theorem Ro:∀{rs:List RV} {us:Lae} {bs:Lac},J3 w G T base rs us bs->(∀p∈bs,∀k,T p.1 k->G' k)->(∀p∈bs,(G' p.1->G p.1))->MD w G' base rs us bs
 |[],[],bs,h,_,_=>h
 |r::rs,u::us,bs,⟨b1,b2,e,h1,h2⟩,hT,hn=>⟨b1,b2,e,rvU_R hG h1 (λp hm=>hT p (by rw[e];exact aau.2 (.inl hm))) (λp hm=>hn p (by rw[e];exact aau.2 (.inl hm))),Ro h2 (λp hm=>hT p (by rw[e];exact aau.2 (.inr hm))) (λp hm=>hn p (by rw[e];exact aau.2 (.inr hm)))⟩
 |[],_::_,_,h,_,_=>h.elim
 |_::_,[],_,h,_,_=>h.elim
end
theorem resU_R{G G':Nat->Prop}{T:Nat->Nat->Prop}{base:Nat}{rs:List RV}{v:Value}{bs:Lac}(h:VE w G T base rs v bs)(hG:∀b,G b->G' b)(hT:∀p∈bs,∀k,T p.1 k->G' k)(hn:∀p∈bs,(G' p.1->G p.1)):II w G' base rs v bs:=by
 match rs,h with
 |[r],h=>exact rvU_R hG h hT hn
 |[],h=>obtain⟨arr,e,h⟩:=h;exact⟨arr,e,Ro hG h hT hn⟩
 |r1::r2::rs,h=>obtain⟨arr,e,h⟩:=h;exact⟨arr,e,Ro hG h hT hn⟩
structure FnU(P:Program)(f:FuncId)(args:List AV)(res:List RV):Prop where
 enters:∀(vs:Array Value) (w:World),(callFunc f vs).run P w= .ok (.enter f vs) w
 calls:∀(F:Nat->Prop) (w:World) (vals:Array Value),(∀b,F b->b<w.heap.size)->TabsIn w->AR w F args vals.toList->
  Calls P f vals w λe w'=>∃(v:Value) (G:Nat->Prop) (T:Nat->Nat->Prop) (bs:Lac),e= .returned v/\GR w w' (λ_=>False)/\(∀b,G b->w.heap.size<=b/\b<w'.heap.size/\fR w' b)/\
   VE w' G T w.heap.size res v bs/\(bs.map (·.1)).Nodup/\(∀b k,T b k->(w.heap.size<=k/\k<w'.heap.size/\fR w' k)/\¬G k/\(∀p∈bs,p.1≠k))/\(∀b b' k,T b k->T b' k->b=b')
def Env.afterU(E:Env)(nx:Nat)(bs:Lac)(G:Nat->Prop)(T:Nat->Nat->Prop):Env:=
 {E.after nx bs G with T:=λl k=>E.T l k\/∃i p,l=nx+i/\bs[i]?=ς p/\T p.1 k}
section
variable{P:Program}{N:Nat}{d:Tmp}{ty:TypeId}{ps:String}{af:Array Edge}{gd:Option (Nat×Bool)}
theorem acd{args:List Operand}{tys:Array TypeId}{ts:List AM.T}{nob:Laa}{avs:List AV}{eqs:Lac}{out:AM.T}{nw:Laa}(hl:ts.length=args.length)(ha:rQ nob ts=ς (avs,eqs))(hF:FnU P f avs res)(he:Eqs eqs)(hi:KE nx res=ς (out,nw,n)):
 AWN P ⟨ς d,.call ⟨.value (.func f),args.toArray,tys⟩,ty,ps,af,gd⟩ (args.zip ts) nob out nw:=by
 intro cx E a w ok hn hb hfr
 have hob:∀l x,go nob l=ς x->cN E w l x:=λl x h=>hb l x (BL h)
 have hA:=A7 ok hob ha he hl hn
 have hFb:∀b,yS E nob b->b<w.heap.size:=by
  rintro b ((h|⟨l,x,c,h1,h2⟩)|⟨l,h⟩)
  .exact ok.fb b h
  .exact(ok.rb l b c h2).1
  exact(ok.sf.tb l b h).1.1
 have hc:=hF.calls (yS E nob) w (args.map a.eval).toArray hFb ok.tabs (by simpa using hA)
 have hent:=hF.enters (args.map a.eval).toArray w
 unfold Oper.wp
 have hrun:(execOp a.eval ⟨ς d,.call ⟨.value (.func f),args.toArray,tys⟩,ty,ps,af,gd⟩).run P w= .ok (.enter f (args.map a.eval).toArray) w:=by
  simp only[execOp,resolve,Act.eval,Deferred.ofValue,Sem.run_bind,Sem.run_pure,Result.andThen_ok,invoke]
  simpa using hent
 rw[hrun,Oper.upon_enter]
 refine hc.mono ?_
 rintro e w' ⟨v,G,T,bs,rfl,hp,hG,hres,hnd,hT,hTT⟩
 have hbs:=acw hres
 have hlen:∀l,nx<=l->l<nx+bs.length->E.r l=ξ/\rsv l=false:=by
  have himp:=N7 (E:={r:=λo=>bs[o-nx]?,F:=G,G:=G,T:=λl k=>∃i p,l=nx+i/\bs[i]?=ς p/\T p.1 k}) (λ_ h=>h) (λb _ h=>h) hi hres (λi p hi=>⟨by simp[hi],λk hk=>⟨i,p,rfl,hi,hk⟩⟩)
  intro l h1 h2
  obtain⟨x,hx⟩:=himp.2.2.2 l h1 (by rw[himp.2.1];exact h2)
  exact hfr l x hx
 obtain⟨ok1,ext⟩:=Ee ok hp hG hbs hnd hlen
 have hTo:∀l b,E.T l b->l<nx\/nx+bs.length<=l\/True:=λ_ _ _=>.inr (.inr trivial)
 have hnewB:∀{l b},E.T l b->b<w.heap.size:=λh=>(ok.sf.tb _ _ h).1.1
 have ok':dr cx (E.afterU nx bs G T) w':=by
  refine⟨ok1.fb,ok1.gf,ok1.gn,ok1.rb,ok1.inj,ok1.os,ok1.tape,ok1.output,ok1.size,ok1.block,ok1.pin,ok1.ff,ok1.gc,⟨λl k h=>?_,λl l' k h h'=>?_,ok1.sf.zc,ok1.sf.zs,ok1.sf.ze⟩⟩
  .rcases h with h|⟨i,p,rfl,h1,h2⟩
   .exact ok1.sf.tb l k h
   obtain⟨⟨k1,k2,k3⟩,k4,k5⟩:=hT _ _ h2
   refine⟨⟨k2,.inl (acR ok.size k1)⟩,λhf=>?_,λo c ho=>?_,k3⟩
   .rcases hf with hf|hf
    .have:=ok.fb k hf;omega
    exact k4 hf
   have ho:(E.after nx bs G).r o=ς (k,c):=ho
   simp only[Env.after] at ho
   split at ho
   .exact k5 _ (v0 ho) rfl
   have:=(ok.rb o k c ho).1;omega
  rcases h with h|⟨i,p,rfl,h1,h2⟩<;>rcases h' with h'|⟨i',p',rfl,h1',h2'⟩
  .exact ok1.sf.tt l l' k h h'
  .have:=hnewB h;have:=(hT _ _ h2').1.1;omega
  .have:=hnewB h';have:=(hT _ _ h2).1.1;omega
  have e:=hTT _ _ _ h2 h2'
  have hi1:i<bs.length:=(f5.1 h1).1
  have hi2:i'<bs.length:=(f5.1 h1').1
  have:(bs.map (·.1))[i]?=(bs.map (·.1))[i']?:=by rw[ada,ada,h1,h1'];simp[e]
  have:=(aeC (by simpa using hi1) hnd).1 this
  omega
 have ext':Ext E w (E.afterU nx bs G T) w':=⟨ext.r,ext.F,ext.G,ext.F',ext.heap,λl k h=>.inl h,λl k h=>by
  rcases h with h|⟨i,p,rfl,h1,h2⟩
  .exact .inl h
  have hi1:i<bs.length:=(f5.1 h1).1
  refine .inr ⟨(hlen _ (Nat.le_add_right _ _) oaa).1,p,?_⟩
  show(if nx<=nx+i/\nx+i<nx+bs.length then bs[nx+i-nx]? else E.r (nx+i))=ς p
  rw[if_pos ⟨by omega,by omega⟩,aeH];exact h1,ext.Z,ext.n⟩
 have himp:=N7 (E:=E.afterU nx bs G T) (G:=G) (T:=T) (base:=w.heap.size) (λb h=>.inr h) (λb hb hng hF=>by
  rcases hF with h|h
  .have:=ok.fb b h;omega
  exact hng h) hi hres (λi p hi=>by
  have hi1:i<bs.length:=(f5.1 hi).1
  refine⟨?_,λk hk=>.inr ⟨i,p,rfl,hi,hk⟩⟩
  show(if nx<=nx+i/\nx+i<nx+bs.length then bs[nx+i-nx]? else E.r (nx+i))=ς p
  rw[if_pos ⟨by omega,by omega⟩,aeH];exact hi)
 refine⟨v,E.afterU nx bs G T,rfl,ok',ext',himp.1,λl ob hm=>(himp.2.2.1 l ob hm).1,λl x hx=>?_⟩
 have hx:(if nx<=l/\l<nx+bs.length then bs[l-nx]? else E.r l)=ς x:=hx
 split at hx
 .rename_i hh;obtain⟨y,hy⟩:=himp.2.2.2 l hh.1 (by rw[himp.2.1];exact hh.2);exact .inr ⟨y,hy⟩
 exact .inl hx
end
theorem cu{d:Tmp}{ty:TypeId}{ps:String}{af:Array Edge}{gd:Option (Nat×Bool)}{sl:List (Nat×AM.T)}{ob:Laa}{args:List Operand}{tys:Array TypeId}{ts:List AM.T}{nob:Laa}{avs:List AV}{eqs:Lac}{out:AM.T}{nw:Laa}(ht:pH sl args=ς ts:=by exact rfl)(hp:t8 ob (C8 ts)=ς nob:=by exact rfl)(ha:rQ nob ts=ς (avs,eqs):=by exact rfl)(hF:FnU P f avs res)(he:Eqs eqs:=by repeat (first|exact θ|refine⟨by first|rfl|exact lm _|simp,?_⟩))(hi:KE nx res=ς (out,nw,n):=by exact rfl)(hw:EA nx nw n=true:=by exact rfl)(hN:nlt d N=true:=by exact rfl)(hob:apO nw ob=ς ob':=by exact rfl):
 NS P N ⟨ς d,.call ⟨.value (.func f),args.toArray,tys⟩,ty,ps,af,gd⟩ ⟨sl,ob,nx⟩ ⟨(d,out)::sl,ob',n⟩ ⟨d,args.zip ts,nob,out,nw⟩:=by
 obtain⟨h1,h2⟩:=nC ht
 rw[ti hob]
 exact dx (st:=⟨sl,ob,nx⟩) (acd h1 ha hF he hi) rfl hN h2 (wr hp) (Dk hw)
def uG(ob:Laa):C->Option (RC×Lac)
 | .d _ (.i k n)=>ς (.d (.i k n),[])
 | .d _ (.b x)=>ς (.d (.b x),[])
 | .d _ (.str s)=>ς (.d (.str s),[])
 | .d (.b ζ) (.l xs)=>ς (.d (.l xs),[])
 | .w o n=>match go ob o,rsv o with
  |some (.row ty sz els (.s l) ζ),η=>ς (.own ty sz els n,[(o,l)])
  |_,_=>ξ
 | .nil=>ς (.nil,[])
 |_=>ξ
def Hk(ob:Laa):List C->Option (List RC×Lac)
 |[]=>ς ([],[])
 |c::cs=>match uG ob c,Hk ob cs with
  |some (r,l),ς (rs,ls)=>ς (r::rs,l++ls)
  |_,_=>ξ
def Sr(ob:Laa):V->Option (RV×Lac)
 | .c c=>match uG ob c with
  |some (r,l)=>ς (.c r,l)
  |none=>ξ
 | .agg cs=>match Hk ob cs with
  |some (r,l)=>ς (.agg r,l)
  |none=>ξ
def Eh(ob:Laa):List V->Option (List RV×Lac)
 |[]=>ς ([],[])
 |c::cs=>match Sr ob c,Eh ob cs with
  |some (r,l),ς (rs,ls)=>ς (r::rs,l++ls)
  |_,_=>ξ
def FinU(P:Program)(rs:List ResultVar)(res:List RV)(s:St):Prop:=∃vs ls,jN P s rs vs/\Eh s.ob vs=ς (res,ls)/\kh (ls.map (·.1))=ζ/\kh (ls.map (·.2))=ζ
def Of(E:Env)(bs:Lac)(ls:Lac):Prop:=bs.length=ls.length/\∀(i:Nat) (l:Nat×Nat),ls[i]?=ς l->∃p,bs[i]?=ς p/\E.r l.1=ς p
theorem Of.join{b1 b2:Lac}{l1 l2:Lac}(h:Of E b1 l1)(k:Of E b2 l2):Of E (b1++b2) (l1++l2):=by
 refine⟨by simp[h.1,k.1],λi l hi=>?_⟩
 by_cases hl:i<l1.length
 .rw[aa8 hl] at hi
  obtain⟨p,h1,h2⟩:=h.2 i l hi
  exact⟨p,by rw[aa8 (by rw[h.1];exact hl)];exact h1,h2⟩
 rw[aa3 oaa] at hi
 obtain⟨p,h1,h2⟩:=k.2 _ l hi
 exact⟨p,by rw[aa3 (by rw[h.1];omega),h.1];exact h1,h2⟩
section
variable{N:Nat}{cx:Cx}{E:Env}{st:St}{a:Act}{w:World}(hR:Rel N cx E st a w)(hn:∀b,cx.In b->cx.w0.heap.size<=b){T:Nat->Nat->Prop}(hT:∀o l b c k,go st.ob o≠ξ->E.r o=ς (b,c)->(∃ty sz els,go st.ob o=ς (.row ty sz els (.s l) ζ))->E.T l k->T b k)
include hR hn hT
theorem NJ{c:C}{ls:Lac}(h:uG st.ob c=ς (r,ls))(hc:cvC E w c u):∃bs,rcU w E.G T cx.w0.heap.size r u bs/\Of E bs ls/\∀p∈ls,∃ty sz els,go st.ob p.1=ς (.row ty sz els (.s p.2) ζ):=by
 cases c with
 |d g x=>
  have hz:Of E [] []:=⟨rfl,λ_ _ h=>by simp at h⟩
  cases x with
  |i k n=>simp[uG] at h;obtain⟨rfl,rfl⟩:=h;exact⟨[],⟨rfl,by simpa [rdD] using tk hc⟩,hz,λ_ h=>by cases h⟩
  |b k=>simp[uG] at h;obtain⟨rfl,rfl⟩:=h;exact⟨[],⟨rfl,by simpa [rdD] using tk hc⟩,hz,λ_ h=>by cases h⟩
  |str k=>simp[uG] at h;obtain⟨rfl,rfl⟩:=h;exact⟨[],⟨rfl,by simpa [rdD] using tk hc⟩,hz,λ_ h=>by cases h⟩
  |l xs=>
   cases g with
   |b g=>cases g with
    |false=>simp[uG] at h
    |true=>simp[uG] at h;obtain⟨rfl,rfl⟩:=h;exact⟨[],⟨rfl,hc⟩,hz,λ_ h=>by cases h⟩
   |s n=>simp[uG] at h
   |t n=>simp[uG] at h
  |k A n c=>simp[uG] at h
 |w o n=>
  simp only[uG] at h
  split at h
  .rename_i ty sz els l ho hrv
   simp at h;obtain⟨rfl,rfl⟩:=h
   obtain⟨b,c,hr,rfl⟩:=hc
   obtain⟨b',c',arr,hr',hh,ha,hlc,hmx,hes,hrd,hFm,_,hTr⟩:=hR.obs o _ ho
   rw[hr] at hr';cases hr'
   refine⟨[(b,c)],⟨b,c,arr,rfl,rfl,hh,ha,hlc,hmx,hes,dJ.keep (T:=E.T l) hTr rfl (λ_ _=>rfl) (λk hk=>hT o l b c k (by rw[ho];simp) hr ⟨_,_,_,ho⟩ hk),λhg=>hFm rfl (hR.ok.gf b hg),hn b (((hR.ok.rb o b c hr).2).resolve_right (λh=>by rw[hrv] at h;exact absurd h.2 (by decide)))⟩,⟨rfl,λi q hi=>?_⟩,λp hp=>?_⟩
   .cases i with
    |zero=>simp at hi;subst hi;exact⟨(b,c),rfl,hr⟩
    |succ i=>simp at hi
   simp at hp;subst hp;exact⟨_,_,_,ho⟩
  cases h
 |nil=>simp[uG] at h;obtain⟨rfl,rfl⟩:=h;exact⟨[],⟨rfl,hc⟩,⟨rfl,λ_ _ h=>by simp at h⟩,λ_ h=>by cases h⟩
 |_=>simp[uG] at h
theorem Kp:∀{cs:List C} {rs:List RC} {ls:Lac} {us:Lae},Hk st.ob cs=ς (rs,ls)->CV E w cs us->∃bs,Pd w E.G T cx.w0.heap.size rs us bs/\Of E bs ls/\∀p∈ls,∃ty sz els,go st.ob p.1=ς (.row ty sz els (.s p.2) ζ)
 |[],rs,ls,us,h,hc=>by
  simp[Hk] at h;obtain⟨rfl,rfl⟩:=h
  cases us with
  |nil=>exact⟨[],rfl,⟨rfl,λ_ _ h=>by simp at h⟩,λ_ h=>by cases h⟩
  |cons _ _=>exact hc.elim
 |c::cs,rs,ls,us,h,hc=>by
  cases us with
  |nil=>exact hc.elim
  |cons u us=>
   simp only[Hk] at h
   split at h
   .rename_i r l rs' ls' h1 h2
    simp at h;obtain⟨rfl,rfl⟩:=h
    obtain⟨b1,k1,k2,k3⟩:=NJ hR hn hT h1 hc.1
    obtain⟨b2,m1,m2,m3⟩:=Kp h2 hc.2
    exact⟨b1++b2,⟨b1,b2,rfl,k1,m1⟩,k2.join m2,λp hp=>(aau.1 hp).elim (k3 p) (m3 p)⟩
   cases h
theorem XD{r:RV}{ls:Lac}(h:Sr st.ob v=ς (r,ls))(hv:cvV E w v u):∃bs,rvU w E.G T cx.w0.heap.size r u bs/\Of E bs ls/\∀p∈ls,∃ty sz els,go st.ob p.1=ς (.row ty sz els (.s p.2) ζ):=by
 cases v with
 |c c=>
  simp only[Sr] at h
  split at h
  .rename_i r' l' h1;simp at h;obtain⟨rfl,rfl⟩:=h;exact NJ hR hn hT h1 hv
  cases h
 |agg cs=>
  simp only[Sr] at h
  split at h
  .rename_i r' l' h1;simp at h;obtain⟨rfl,rfl⟩:=h
   obtain⟨arr,hu,hc⟩:=hv
   obtain⟨bs,k1,k2,k3⟩:=Kp hR hn hT h1 hc
   exact⟨bs,⟨arr,hu,k1⟩,k2,k3⟩
  cases h
theorem Kq:∀{cs:List V} {rs:List RV} {ls:Lac} {us:Lae},Eh st.ob cs=ς (rs,ls)->VV E w cs us->∃bs,J3 w E.G T cx.w0.heap.size rs us bs/\Of E bs ls/\∀p∈ls,∃ty sz els,go st.ob p.1=ς (.row ty sz els (.s p.2) ζ)
 |[],rs,ls,us,h,hc=>by
  simp[Eh] at h;obtain⟨rfl,rfl⟩:=h
  cases us with
  |nil=>exact⟨[],rfl,⟨rfl,λ_ _ h=>by simp at h⟩,λ_ h=>by cases h⟩
  |cons _ _=>exact hc.elim
 |c::cs,rs,ls,us,h,hc=>by
  cases us with
  |nil=>exact hc.elim
  |cons u us=>
   simp only[Eh] at h
   split at h
   .rename_i r l rs' ls' h1 h2
    simp at h;obtain⟨rfl,rfl⟩:=h
    obtain⟨b1,k1,k2,k3⟩:=XD hR hn hT h1 hc.1
    obtain⟨b2,m1,m2,m3⟩:=Kq h2 hc.2
    exact⟨b1++b2,⟨b1,b2,rfl,k1,m1⟩,k2.join m2,λp hp=>(aau.1 hp).elim (k3 p) (m3 p)⟩
   cases h
end
theorem Pm{fn:Func}{us:Lae}(hm:(fn.results.mapM (rN a.tmps)).run P w= .ok us.toArray w):(results fn a.tmps).run P w= .ok (if h:us.toArray.size=1 then us.toArray[0] else .tuple us.toArray) w:=by
 have hres:results fn a.tmps=(fn.results.mapM (rN a.tmps))>>= λvs=>pure (if h:vs.size=1 then vs[0] else .tuple vs):=rfl
 rw[hres,Sem.run_bind,hm];rfl
theorem abo{st:St}(hR:Rel N cx E st a w)(hn:∀b,cx.In b->cx.w0.heap.size<=b){fn:Func}(h:FinU P fn.results.toList res st):
 ∃(v:Value) (T:Nat->Nat->Prop) (bs:Lac),(results fn a.tmps).run P w= .ok v w/\VE w E.G T cx.w0.heap.size res v bs/\(bs.map (·.1)).Nodup/\
  (∀b k,T b k->∃l,E.T l k)/\(∀p∈bs,∃l,E.r l=ς p)/\(∀b b' k,T b k->T b' k->b=b'):=by
 obtain⟨vs,ls,h1,h2,h3,h4⟩:=h
 obtain⟨us,k1,k2⟩:=Ct hR h1
 let T0:Nat->Nat->Prop:=λb k=>∃o l c,(o,l)∈ls/\E.r o=ς (b,c)/\E.T l k
 have hobs:∃bs,J3 w E.G (λb k=>∃o l c,E.r o=ς (b,c)/\(∃ty sz els,go st.ob o=ς (.row ty sz els (.s l) ζ))/\E.T l k) cx.w0.heap.size res us bs/\Of E bs ls/\∀p∈ls,∃ty sz els,go st.ob p.1=ς (.row ty sz els (.s p.2) ζ):=
  Kq hR hn (λo l b c k _ hr hg hk=>⟨o,l,c,hr,hg,hk⟩) h2 k2
 obtain⟨bs,m1,m2,m3⟩:=hobs
 have nd1:=jH h3
 have nd2:=jH h4
 have hbl:∀p∈bs,∃q∈ls,E.r q.1=ς p:=by
  intro p hp
  obtain⟨i,hi,rfl⟩:=List.mem_iff_getElem.1 hp
  have hl:i<ls.length:=by rw[<-m2.1];exact hi
  obtain⟨p',h5,h6⟩:=m2.2 i ls[i] (hV hl)
  rw[hV hi] at h5;cases h5
  exact⟨ls[i],List.getElem_mem hl,h6⟩
 have nl:∀{i j:Nat} {x y:Nat×Nat},ls[i]?=ς x->ls[j]?=ς y->x.1=y.1->i=j:=λ{i j x y} h h' e=>by
  have hi:i<(ls.map (·.1)).length:=by simpa using(f5.1 h).1
  exact(aeC hi nd1).1 (by rw[ada,ada,h,h'];simp[e])
 have nl2:∀{x y:Nat×Nat},x∈ls->y∈ls->x.2=y.2->x=y:=λ{x y} h h' e=>by
  obtain⟨i,hi⟩:=aeJ.1 h
  obtain⟨j,hj⟩:=aeJ.1 h'
  have hi':i<(ls.map (·.2)).length:=by simpa using(f5.1 hi).1
  have:i=j:=(aeC hi' nd2).1 (by rw[ada,ada,hi,hj];simp[e])
  subst this;rw[hi] at hj;exact Option.some.inj hj
 have hnd:(bs.map (·.1)).Nodup:=by
  rw[List.nodup_iff_pairwise_ne,List.pairwise_map,List.pairwise_iff_getElem]
  intro i j hi hj hij e
  have hli:i<ls.length:=by rw[<-m2.1];exact hi
  have hlj:j<ls.length:=by rw[<-m2.1];exact hj
  obtain⟨p,h5,h6⟩:=m2.2 i ls[i] (hV hli)
  obtain⟨q,h7,h8⟩:=m2.2 j ls[j] (hV hlj)
  rw[hV hi] at h5;cases h5
  rw[hV hj] at h7;cases h7
  have h8':E.r ls[j].1=ς (bs[i].1,bs[j].2):=by rw[h8,e]
  have:=hR.ok.inj _ _ _ _ _ h6 h8'
  have:=nl (hV hli) (hV hlj) this
  omega
 have hmono:J3 w E.G T0 cx.w0.heap.size res us bs:=by
  refine Zr (T:=λb k=>∃o l c,E.r o=ς (b,c)/\(∃ty sz els,go st.ob o=ς (.row ty sz els (.s l) ζ))/\E.T l k) m1 (λb c hm k ⟨o,l,c',q1,q2,q3⟩=>?_)
  obtain⟨q,q4,q5⟩:=hbl (b,c) hm
  have:=hR.ok.inj _ _ _ _ _ q1 q5
  subst this
  obtain⟨ty,sz,els,q6⟩:=m3 q q4
  obtain⟨ty',sz',els',q2⟩:=q2
  rw[q6] at q2;cases q2
  exact⟨q.1,q.2,c',q4,q1,q3⟩
 have hm:(fn.results.mapM (rN a.tmps)).run P w= .ok us.toArray w:=by
  rw[<-adG (xs:=fn.results),List.mapM_toArray]
  simp only[Sem.run_map,k1]
  rfl
 have hrun:=Pm hm
 have tail:(∀b k,T0 b k->∃l,E.T l k)/\(∀p∈bs,∃l,E.r l=ς p)/\(∀b b' k,T0 b k->T0 b' k->b=b'):=
  ⟨λb k ⟨o,l,c,_,_,h⟩=>⟨l,h⟩,λp hp=>(hbl p hp).elim λq h=>⟨q.1,h.2⟩,λb b' k ⟨o,l,c,q1,q2,q3⟩ ⟨o',l',c',q1',q2',q3'⟩=>by
   have:=hR.ok.sf.tt _ _ _ q3 q3';subst this
   have:=nl2 q1 q1' rfl;cases this
   rw[q2] at q2';cases q2';rfl⟩
 match res,us,hmono with
 |[],[],hmono=>exact⟨.tuple #[],T0,bs,by simpa using hrun,⟨#[],rfl,hmono⟩,hnd,tail⟩
 |[r],[u],hmono=>
  obtain⟨b1,b2,rfl,q1,q2⟩:=hmono
  have q2:b2=[]:=q2
  subst q2
  exact⟨u,T0,_,by simpa using hrun,by rw[aeE];exact q1,hnd,tail⟩
 |r1::r2::rs,u1::u2::us,hmono=>exact⟨.tuple (u1::u2::us).toArray,T0,bs,by simpa using hrun,⟨_,rfl,hmono⟩,hnd,tail⟩
 |[],_::_,hmono=>exact hmono.elim
 |_::_,[],hmono=>exact hmono.elim
 |[_],_::_::_,hmono=>obtain⟨_,_,_,_,h⟩:=hmono;exact h.elim
 |_::_::_,[_],hmono=>obtain⟨_,_,_,_,h⟩:=hmono;exact h.elim
def GS(N:Nat)(P:Program)(rs:List ResultVar)(res:List RV):Exit->St->Prop
 | .normal,s| .ret,s=>∃s',cO N s s'/\FinU P rs res s'
 |_,_=>False
instance {N:Nat} {P:Program} {rs:List ResultVar} {res:List RV}:Clo N (GS N P rs res):=⟨λe s m hw h=>by
 cases e<;>simp only[GS] at h ⊢<;>first|exact h|(obtain⟨s',h1,h2⟩:=h;exact⟨s',aK hw h1,h2⟩)⟩
theorem jw{rs:List ResultVar}{e:Exit}{s m:St}(hw:cO N s m)(h:GS N P rs res e m):GS N P rs res e s:=Clo.h (N:=N) _ _ _ hw h
theorem fn_ofU{fn:Func}{c:Code}{args:List AV}{rs:List ResultVar}(hf:P.funcs[f]?=ς fn)(hb:fn.body=ς c)(hnm:(fn.name== "runtime.NumGoroutine")=η)(hN:fn.ntmps=N)(hrs:fn.results.toList=rs)(ha:abD args.length N=ζ)(h:AWC P N c ⟨vZ 0 args,[],0⟩ (GS N P rs res)):FnU P f args res:=by
 refine⟨λvs w=>by simp_all[callFunc],λF w vals hF hT hA=>?_⟩
 subst hrs
 refine calls_of_wp hf hb ?_
 let E:Env:={r:=λ_=>ξ,F:=F,G:=λ_=>False}
 obtain⟨h1,h2⟩:=GX (E:=E) (F:=F) rfl 0 hA
 have hle:args.length<=N:=adp ha
 have hsz:vals.size=args.length:=by simpa using h1
 have hR:Rel N ⟨w,λ_=>False,λ_=>ξ,λ_=>True,λ_=>False,⟨hT,λ_ _ h=>h⟩,λ_=>False⟩ E ⟨vZ 0 args,[],0⟩ {tmps:=vals++abw (fn.ntmps-vals.size) undef,defers:=[]} w:=by
  refine⟨⟨hF,λ_ h=>h.elim,λ_ h=>h.elim,(λ_ _ _ h=>by cases h),(λ_ _ _ _ _ h=>by cases h),rfl,rfl,rfl,abk _,λ_ _ _=>rfl,(λ_ _ _ h=>by cases h),λ_ _=>.inl trivial,λb h h'=>absurd (hF b h) (aec.2 (h'.resolve_right λh=>h.2.1)),⟨λ_ _ h=>h.elim,λ_ _ _ h=>h.elim,λ_ h=>h.elim,λ_ h=>h.elim,λ_ h=>h.elim⟩⟩,(λ_ _ h=>by cases h),(λ_ _ h=>by cases h),λk=>?_,rfl,by simp;omega,λ_ _ h=>h.elim⟩
  by_cases hk:k<args.length
  .obtain⟨u,h3,h4⟩:=(h2 k).1 ⟨abm _,by omega⟩
   have:(vals++abw (fn.ntmps-vals.size) undef).getD k undef=u:=by
    have h5:vals[k]?=ς u:=by simpa using h3
    have h6:(vals++abw (fn.ntmps-vals.size) undef)[k]?=ς u:=by rw[Array.getElem?_append_left oaa];exact h5
    simp[h6]
   simp_all
  have:=(h2 k).2 oaa
  show cvT _ w (gt (vZ 0 args) k) _
  rw[this];trivial
 refine wp_mono (h _ E _ w hR) ?_
 rintro e a' w' ⟨E',s',hR',hq⟩
 have fin:(∃s'',cO N s' s''/\FinU P fn.results.toList res s'')->
  a'.defers=[]/\∃v,(results fn a'.tmps).run P w'= .ok v w'/\∃(v':Value) (G:Nat->Prop) (T:Nat->Nat->Prop) (bs:Lac),Ending.returned v= .returned v'/\GR w w' (λ_=>False)/\(∀b,G b->w.heap.size<=b/\b<w'.heap.size/\fR w' b)/\
   VE w' G T w.heap.size res v' bs/\(bs.map (·.1)).Nodup/\(∀b k,T b k->(w.heap.size<=k/\k<w'.heap.size/\fR w' k)/\¬G k/\(∀p∈bs,p.1≠k))/\(∀b b' k,T b k->T b' k->b=b'):=by
  rintro⟨s'',hw,hfin⟩
  obtain⟨E'',hR''⟩:=hw _ _ _ _ hR'
  obtain⟨v,T,bs,k1,k2,k3,k4,k5,k6⟩:=abo hR'' (λb h=>h.resolve_right λh=>h.1) hfin
  have ok:=hR''.ok
  exact⟨hR''.dfr,v,k1,v,E''.G,T,bs,rfl,⟨ok.os,ok.tape,ok.output,ok.size,ok.block⟩,λb hb=>⟨(ok.gn b hb).resolve_right id,ok.fb b (ok.gf b hb),ok.gc b (ok.gf b hb) (.inl ((ok.gn b hb).resolve_right id))⟩,k2,k3,
   λb k hk=>by
    obtain⟨l,hl⟩:=k4 b k hk
    obtain⟨⟨q1,q2⟩,q3,q4,q5⟩:=ok.sf.tb l k hl
    exact⟨⟨q2.resolve_right λh=>h.1,q1,q5⟩,λhg=>q3 (ok.gf k hg),λp hp e=>(k5 p hp).elim λo ho=>q4 o p.2 (by rw[ho,<-e])⟩,k6⟩
 cases e with
 |normal=>exact fin hq
 |ret=>exact fin hq
 |_=>exact hq.elim
theorem ee{fn:Func}{c:Code}{args:List AV}{rs:List ResultVar}{sl0:List (Nat×AM.T)}(hf:P.funcs[f]?=ς fn)(hb:fn.body=ς c:=by exact rfl)(hnm:(fn.name== "runtime.NumGoroutine")=false:=by kernel_rfl)(hN:fn.ntmps=N)(hrs:fn.results.toList=rs:=by exact rfl)(ha:abD args.length N=true:=by exact rfl)(hs:Np 0 args=ς sl0:=by exact rfl)(h:AWC P N c ⟨sl0,[],0⟩ (GS N P rs res)):FnU P f args res:=by
 rw[Lr hs] at h
 exact fn_ofU hf hb hnm hN hrs ha h
theorem bD{s:St}{rs:List ResultVar}{res':List RV}{vs:List V}{ls:Lac}(h:jN P s rs vs:=by repeat' (first|exact .nil|apply jN.cons|exact .tmp rfl|exact .cell rfl rfl rfl|exact .cell1 rfl rfl))(he:Eh s.ob vs=ς (res',ls):=by exact rfl)(hr:res'=res:=by first|rfl|simp)(h1:kh (ls.map (·.1))=true:=by exact rfl)(h2:kh (ls.map (·.2))=true:=by exact rfl):GS N P rs res .ret s:=by
 subst hr;exact⟨s,mu s,vs,ls,h,he,h1,h2⟩
theorem FnU.fn{args:List AV}(h:FnU P f args res):Fn P f args res:=by
 refine⟨h.enters,λF w vals hF hT hA=>(h.calls F w vals hF hT hA).mono ?_⟩
 rintro e w' ⟨v,G,T,bs,he,hp,hG,hres,hnd,hT,hTT⟩
 exact⟨v,λk=>G k\/∃p∈bs,T p.1 k,bs,he,hp,λb hb=>hb.elim (hG b) (λ⟨p,_,h⟩=>(hT _ _ h).1),resU_R hres (λ_ h=>.inl h) (λp hp k hk=>.inr ⟨p,hp,hk⟩) (λp hp h=>h.elim (λh=>h) λ⟨q,_,h⟩=>absurd rfl ((hT _ _ h).2.2 p hp)),hnd⟩
def mgG(gs:List (Option Nat))(l:Nat):Gr->Option Gr
 | .b g=>ς (.b g)
 | .s k=>match CN k gs with
  |true=>ς (.s l)
  |false=>ς (.s k)
 | .t k=>match CN k gs with
  |true=>ς (.t l)
  |false=>ς (.t k)
def mgC(gs:List (Option Nat))(l:Nat):C->Option C
 | .d g x=>match mgG gs l g with
  |some g'=>ς (.d g' x)
  |none=>ξ
 | .q g x j=>match mgG gs l g with
  |some g'=>ς (.q g' x j)
  |none=>ξ
 | .r k x=>match CN k gs with
  |true=>ς (.r l x)
  |false=>ς (.r k x)
 |c=>ς c
def mgO(gs:List (Option Nat))(l:Nat):Nat->Ob->Option Ob
 |_,.row t sz els g m=>match mgG gs l g with
  |some g'=>ς (.row t sz els g' m)
  |none=>ξ
 |_,.rown t sz els g=>match mgG gs l g with
  |some g'=>ς (.rown t sz els g')
  |none=>ξ
 |_,.abs k y=>match CN k gs with
  |true=>ς (.abs l y)
  |false=>ς (.abs k y)
 |_,.var t cs=>ς (.var t cs)
theorem Mb{gs:List (Option Nat)}{g':Gr}(h:mgG gs l g=ς g'):g'=g.rg (mgs gs l):=by
 cases g with
 |b g=>cases h;rfl
 |s k=>
  simp only[mgG] at h
  split at h
  .rename_i h1;cases h;simp[Gr.rg,mgs,h1]
  rename_i h1;cases h;simp[Gr.rg,mgs,h1]
 |t k=>
  simp only[mgG] at h
  split at h
  .rename_i h1;cases h;simp[Gr.rg,mgs,h1]
  rename_i h1;cases h;simp[Gr.rg,mgs,h1]
theorem Ym{gs:List (Option Nat)}{c c':C}(h:mgC gs l c=ς c'):c'=c.rg (mgs gs l):=by
 cases c with
 |d g x=>
  simp only[mgC] at h
  split at h
  .rename_i h1;cases h;rw[Mb h1];rfl
  cases h
 |q g x j=>
  simp only[mgC] at h
  split at h
  .rename_i h1;cases h;rw[Mb h1];rfl
  cases h
 |r k x=>
  simp only[mgC] at h
  split at h
  .rename_i h1;cases h;simp[C.rg,mgs,h1]
  rename_i h1;cases h;simp[C.rg,mgs,h1]
 |_=>simp only[mgC] at h;cases h;rfl
theorem Ma{gs:List (Option Nat)}{l:Nat}:∀{cs cs':List C},lp (mgC gs l) cs=ς cs'->cs'=cs.map (C.rg (mgs gs l))
 |[],cs',h=>by simp[lp] at h;subst h;rfl
 |c::cs,cs',h=>by
  simp only[lp] at h
  split at h
  .rename_i h1 h2;cases h;rw[Ym h1,Ma h2];rfl
  cases h
theorem Yn{gs:List (Option Nat)}{v':V}(h:F1 (mgC gs l) v=ς v'):v'=v.rg (mgs gs l):=by
 cases v with
 |c c=>
  simp only[F1] at h
  split at h
  .rename_i h1;cases h;rw[Ym h1];rfl
  cases h
 |agg cs=>
  simp only[F1] at h
  split at h
  .rename_i h1;cases h;rw[Ma h1];rfl
  cases h
theorem Tj{gs:List (Option Nat)}{l:Nat}:∀{cs cs':List V},zD (mgC gs l) cs=ς cs'->cs'=cs.map (V.rg (mgs gs l))
 |[],cs',h=>by simp[zD] at h;subst h;rfl
 |c::cs,cs',h=>by
  simp only[zD] at h
  split at h
  .rename_i h1 h2;cases h;rw[Yn h1,Tj h2];rfl
  cases h
theorem mgT_eq{gs:List (Option Nat)}{v v':T}(h:xP (mgC gs l) v=ς v'):v'=v.rg (mgs gs l):=by
 cases v with
 |v v=>
  simp only[xP] at h
  split at h
  .rename_i h1;cases h;rw[Yn h1];rfl
  cases h
 |tup vs=>
  simp only[xP] at h
  split at h
  .rename_i h1;cases h;rw[Tj h1];rfl
  cases h
 |any=>cases h;rfl
theorem QF{gs:List (Option Nat)}{l:Nat}:∀{sl sl':Lab},pZ (mgC gs l) sl=ς sl'->sl'=Gd (mgs gs l) sl
 |[],sl',h=>by simp[pZ] at h;subst h;rfl
 |(k,t)::r,sl',h=>by
  simp only[pZ] at h
  split at h
  .rename_i h1 h2;cases h;rw[mgT_eq h1,QF h2];rfl
  cases h
theorem AU{gs:List (Option Nat)}{l:Nat}:∀{ob ob':Laa},nL (mgC gs l) (mgO gs l) ob=ς ob'->ob'=DB (mgs gs l) ob
 |[],ob',h=>by simp[nL] at h;subst h;rfl
 |(k,x)::r,ob',h=>by
  cases x with
  |var t cs=>
   simp only[nL] at h
   split at h
   .rename_i h1 h2;cases h;rw[Ma h1,AU h2];rfl
   cases h
  |row t sz els g m=>
   simp only[nL,mgO] at h
   split at h
   .rename_i h1 h2
    split at h1
    .rename_i h3;cases h1;cases h;rw[Mb h3,AU h2];rfl
    cases h1
   cases h
  |rown t sz els g=>
   simp only[nL,mgO] at h
   split at h
   .rename_i h1 h2
    split at h1
    .rename_i h3;cases h1;cases h;rw[Mb h3,AU h2];rfl
    cases h1
   cases h
  |abs j y=>
   simp only[nL,mgO] at h
   split at h
   .rename_i h1 h2
    cases h
    rw[AU h2]
    split at h1
    .rename_i h3;cases h1;simp[DB,Ob.rg,mgs,h3]
    rename_i h3;cases h1;simp[DB,Ob.rg,mgs,h3]
   cases h
section
variable{P:Program}{N:Nat}{d:Tmp}{ty:TypeId}{ps:String}{af:Array Edge}{gd:Option (Nat×Bool)}{x y:Operand}{sl:Lab}{ob:Laa}{nx:Nat}{α:Type}{enc:α->List D}
theorem stT{o:Nat}{i:Int}{rt:TypeId}{ys:List α}{a a':α}{gs:List (Option Nat)}[TyN P t n](H:ix ys i=ς a)(hx:opT sl x= .v (.c (.e o sz i.toNat j)):=by exact rfl)(hy:opT sl y= .v v:=by exact rfl)(ho:go ob o=ς (.row rt sz (ys.map enc) (.s l) ζ):=by exact rfl)(hv:tvD v=ς (ns,gs):=by exact rfl)(hg:F3 l gs=true:=by exact rfl)(hl:nlt l nx=true:=by exact rfl)(hn:fW ns.length n=true:=by exact rfl)(hs:mI j ns (enc a)=ς (enc a'):=by exact rfl)(hs1:pZ (mgC gs l) sl=ς sl':=by exact rfl)(hs2:nL (mgC gs l) (mgO gs l) ob=ς ob':=by exact rfl):
 AWO P N ⟨ξ,.store t x y,ty,ps,af,gd⟩ ⟨sl,ob,nx⟩ ⟨sl',(o,.row rt sz ((ys.set i.toNat a').map enc) (.s l) ζ)::ob',nx⟩:=by
 have:=Vq (P:=P) (N:=N) (ty:=ty) (ps:=ps) (af:=af) (gd:=gd) (nx:=nx) (t:=t) (n:=n) (sl:=sl) (ob:=ob) hx hy ho hv hg hl hn (fK enc H) hs
 rw[<-QF hs1,<-AU hs2] at this
 rwa [aeL]
end
theorem RK{enc:α->List D}{ys:List α}(h:∀a,scB (enc a)=ζ):Z9 l g (ys.map enc):=by
 have:∀e∈ys.map enc,scB e=true:=λe he=>by obtain⟨a,_,rfl⟩:=adP.1 he;exact h a
 cases g with
 |b g=>exact this
 |s n=>exact .inr this
 |t n=>exact .inr this
theorem eE{rt:Nat}{sl1:Lab}{ob ob1:Laa}{e1 e2:Lac}(o:Nat)(ho:go ob o=ς (.row rt sz els g ζ):=by exact rfl)(hs:pZ (J5 o) sl=ς sl1:=by exact rfl)(hb:nL (J5 o) (RI o) ob=ς ob1:=by exact rfl)(hrv:rsv o=false:=by exact rfl)(hl:nlt o nx=true:=by exact rfl)(ho1:go ob1 o=ς (.rown rt sz els g):=by exact rfl)(hs1:V1 o (.l els) o els.length sl1=ς (sl',e1):=by exact rfl)(hb1:yM o (.l els) o els.length ob1=ς (ob',e2):=by exact rfl)(h1:Eqs e1:=by repeat (first|exact θ|refine⟨by first|rfl|simp,?_⟩))(h2:Eqs e2:=by repeat (first|exact θ|refine⟨by first|rfl|simp,?_⟩))(hg:Z9 o g els:=by first|exact Or.inl rfl|exact RK (λ_=>rfl)):
 cO N ⟨sl,ob,nx⟩ ⟨sl',ob',nx⟩:=aK (ez o ho hs hb) (RR o o hrv hl ho1 hs1 hb1 h1 h2 hg)
theorem mt{ty:Nat}{ob:Laa}{enc:α->List D}{ys:List α}(o:Nat)(ho:go ob o=ς (.row ty sz (ys.map enc) g ζ):=by exact rfl)(hf:∀a,scB (enc a)=true:=by exact λ_=>rfl):cO N ⟨sl,ob,nx⟩ ⟨sl,(o,.row ty sz (ys.map enc) (.s o) ζ)::ob,nx⟩:=
 Lc o ho λe he=>by obtain⟨a,_,rfl⟩:=adP.1 he;exact hf a
theorem yn{ty:Nat}{ob:Laa}{enc:α->List D}{z:α}(o:Nat)(ho:go ob o=ς (.row ty sz ((aal n z).map enc) g ζ):=by exact rfl)(hf:scB (enc z)=true:=by exact rfl):cO N ⟨sl,ob,nx⟩ ⟨sl,(o,.row ty sz ((aal n z).map enc) (.s o) ζ)::ob,nx⟩:=
 Lc o ho λe he=>by
  obtain⟨a,h,rfl⟩:=adP.1 he
  rw[(List.mem_replicate.1 h).2];exact hf
def tkC(o:Nat)(els:Lad):C->Option ((D×Bool)×List Nat)
 | .w l n=>match fW l o with
  |true=>ς ((.l els,ζ),[n])
  |false=>ξ
 | .d _ (.i k n)=>ς ((.i k n,η),[])
 | .d _ (.b b)=>ς ((.b b,η),[])
 | .d _ (.str s)=>ς ((.str s,η),[])
 |_=>ξ
def VZ(o:Nat)(els:Lad):List C->Option ((List D×List Bool)×List Nat)
 |[]=>ς (([],[]),[])
 |c::cs=>match tkC o els c,VZ o els cs with
  |some ((x,g),n),ς ((xs,gs),ns)=>ς ((x::xs,g::gs),n++ns)
  |_,_=>ξ
def QR:List Bool->Bool
 |[]=>ζ
 |true::r=>!(r.any λx=>x)
 |false::r=>QR r
theorem ON:∀{gs:List Bool} {i j:Nat},QR gs=ζ->gs[i]?=ς ζ->gs[j]?=ς ζ->i=j
 |true::r,0,0,_,_,_=>rfl
 |true::r,0,j+1,h,_,h2=>by
  simp only[QR,ac8] at h
  have:r.any (λx=>x)=true:=adi.2 ⟨ζ,v0 (by simpa using h2),rfl⟩
  rw[this] at h;cases h
 |true::r,i+1,0,h,h1,_=>by
  simp only[QR,ac8] at h
  have:r.any (λx=>x)=true:=adi.2 ⟨ζ,v0 (by simpa using h1),rfl⟩
  rw[this] at h;cases h
 |true::r,i+1,j+1,h,h1,h2=>by
  simp only[QR,ac8] at h
  have:r.any (λx=>x)=true:=adi.2 ⟨ζ,v0 (by simpa using h1),rfl⟩
  rw[this] at h;cases h
 |false::r,i+1,j+1,h,h1,h2=>congrArg (· +1) (ON (gs:=r) h (by simpa using h1) (by simpa using h2))
 |false::r,0,_,_,h1,_=>by simp at h1
 |false::r,_+1,0,_,_,h2=>by simp at h2
theorem tkC_ok{o c:Nat}{k:C}{x:D}{g:Bool}{ns:List Nat}{T:Nat->Prop}(h:tkC o els k=ς ((x,g),ns))(hn:∀n∈ns,n=els.length)(hr:E.r o=ς (b,c))(hT:dJ w T els b)(hc:els.length<=c)(hx:GT w b c els)(hk:cvC E w k u):
 fw w (λj=>g=ζ/\(T j\/j=b)) x u/\u.oneCell'=ζ/\u.cells= #[u]:=by
 cases k with
 |w l n=>
  simp only[tkC] at h
  split at h
  .rename_i h1;cases h
   have:=aat h1;subst this
   obtain⟨b',c',h2,rfl⟩:=hk
   rw[hr] at h2;cases h2
   have e:=hn n (by simp)
   subst e
   exact⟨(hT.tree hc hx).keep (λ_ _=>rfl) λj hj=>⟨rfl,hj⟩,rfl,rfl⟩
  cases h
 |d gg x'=>
  have hrd:=mw hk
  cases x' with
  |i k n=>simp[tkC] at h;obtain⟨⟨rfl,rfl⟩,rfl⟩:=h;exact⟨by rw[rdD] at hrd;rw[fw];exact hrd,kj (mw hk),p6 (mw hk)⟩
  |b n=>simp[tkC] at h;obtain⟨⟨rfl,rfl⟩,rfl⟩:=h;exact⟨by rw[rdD] at hrd;rw[fw];exact hrd,kj (mw hk),p6 (mw hk)⟩
  |str n=>simp[tkC] at h;obtain⟨⟨rfl,rfl⟩,rfl⟩:=h;exact⟨by rw[rdD] at hrd;rw[fw];exact hrd,kj (mw hk),p6 (mw hk)⟩
  |k A n c=>simp[tkC] at h
  |l xs=>simp[tkC] at h
 |_=>simp[tkC] at h
theorem T8{E:Env}{w:World}{o b c:Nat}{els:Lad}{T:Nat->Prop}(hr:E.r o=ς (b,c))(hT:dJ w T els b)(hc:els.length<=c)(hx:GT w b c els):∀{cs:List C} {xs:List D} {gs:List Bool} {ns:List Nat} {us:Lae},VZ o els cs=ς ((xs,gs),ns)->(∀n∈ns,n=els.length)->CV E w cs us->
 xs.length=us.length/\∀(j:Nat) (xd:D),xs[j]?=ς xd->∃u g,us[j]?=ς u/\gs[j]?=ς g/\fw w (λj=>g=ζ/\(T j\/j=b)) xd u
 |[],xs,gs,ns,us,h,_,hk=>by
  simp[VZ] at h;obtain⟨⟨rfl,rfl⟩,rfl⟩:=h
  cases us with
  |nil=>exact⟨rfl,λj xd hj=>by simp at hj⟩
  |cons _ _=>exact hk.elim
 |k::cs,xs,gs,ns,us,h,hn,hk=>by
  cases us with
  |nil=>exact hk.elim
  |cons u us=>
   simp only[VZ] at h
   split at h
   .rename_i x g n xs' gs' ns' h1 h2
    cases h
    obtain⟨k1,k2,k3⟩:=tkC_ok h1 (λn hn'=>hn n (by simp[hn'])) hr hT hc hx hk.1
    obtain⟨m1,m2⟩:=T8 hr hT hc hx h2 (λn hn'=>hn n (by simp[hn'])) hk.2
    refine⟨by simp[m1],λj xd hj=>?_⟩
    cases j with
    |zero=>simp at hj;subst hj;exact⟨u,g,rfl,rfl,k1⟩
    |succ j=>obtain⟨u',g',q1,q2,q3⟩:=m2 j xd (by simpa using hj);exact⟨u',g',by simpa using q1,by simpa using q2,q3⟩
   cases h
section
variable{P:Program}{N:Nat}{d:Tmp}{ty:TypeId}{ps:String}{af:Array Edge}{gd:Option (Nat×Bool)}{p:Operand}{sl:Lab}{ob:Laa}{nx:Nat}
theorem abC{o rt rz:Nat}{cs:List C}{gs:List Bool}{ms:List Nat}[ht:dz P t e sz by_](hv:VZ o els cs=ς ((ns,gs),ms))(hms:∀n∈ms,n=els.length)(hg:QR gs=ζ)(hs:fW ns.length sz=ζ)(h24:abD sz 16777216=ζ)(hrv:rsv o=η):
 AWK P ⟨ς d,.buildSlice t 1 #[(0,p)],ty,ps,af,gd⟩ [(p,.v (.agg cs))] [(o,.row rt rz els (.s o) ζ)] (.v (.c (.w q 1))) [(q,.row e sz [ns] (.s o) ζ)] [] (ς o):=by
 intro cx E a w ok hne hnob hfr
 obtain⟨hq1,hq2⟩:=hfr q _ (.head _)
 obtain⟨uarr,hup,hcv⟩:cvV E w (.agg cs) (a.eval p):=hne p _ (.head _)
 obtain⟨bo,co,arro,hro,hho,hao,hlo,hmo,heo,hrdo,hFo,_,hTo⟩:=hnob o _ (.head _)
 have hTo:dJ w (E.T o) els bo:=hTo
 have hF:=hFo rfl
 obtain⟨v1,v2⟩:=T8 hro hTo hlo ⟨_,_,_,hho,hao,hmo,heo⟩ hv hms hcv
 have hsz:=aat hs
 have hall:∀u∈uarr.toList,∃x,rdD w (λ_=>True) x u:=λu hu=>by
  obtain⟨j,hj⟩:=ac7 hu
  have hjl:j<ns.length:=by rw[v1];exact(f5.1 hj).1
  obtain⟨u',g,n1,n2,n3⟩:=v2 j _ (hV hjl)
  rw[hj] at n1;cases n1
  exact⟨_,n3.rdF λ_ _=>trivial⟩
 have hcl:uarr.toList.length=sz:=by rw[<-v1];exact hsz
 have hb:=Dh (P:=P) (d:=ς d) (ty:=ty) (ps:=ps) (af:=af) (gd:=gd) (t:=t) (e:=e) (sz:=sz) (by_:=by_) (len:=1) (l:=q) (parts:=[(0,p)]) (vs:=[.agg (uarr.toList.map λu=>.d (.b ζ) (exV u))]) (els:=[uarr.toList.map exV]) (g:=ζ) rfl rfl rfl (by simp[vsD,vD,W5 hall]) (by simp[UR];simpa using hcl) (by have:=adp h24;omega)
  cx E a w ok (λx t hm=>by simp at hm;obtain⟨rfl,rfl⟩:=hm;exact⟨uarr,hup,CV_ex hall⟩) (λ_ _ h=>by cases h) (λl ob hm=>by simp at hm;obtain⟨rfl,rfl⟩:=hm;exact⟨hq1,hq2⟩)
 refine Oper.wp_mono ?_ hb
 rintro a' w' ⟨u,E1,rfl,ok1,ext,hvu,hob,hdom⟩
 obtain⟨b,c,arr,hr',hh,ha,hlc,hmx,hes,hrd,hFb,_⟩:=hob _ _ (.head _)
 have hro1:E1.r o=ς (bo,co):=ext.r _ _ hro
 have hoq:o≠q:=λe=>by rw[e,hq1] at hro;cases hro
 have hbb:b≠bo:=λe=>hoq (ok1.inj o q bo co c hro1 (e▸hr'))
 have hw:∀k,k<w.heap.size->w'.heap[k]?=w.heap[k]?:=ext.heap
 have hbo:=(ok.rb o bo co hro).1
 obtain⟨E2,hE2⟩:∃E2:Env,E2={E1 with r:=λl=>if l=o then ξ else E1.r l,T:=λl k=>E1.T l k\/(l=o/\k=bo)}:=⟨_,rfl⟩
 have e_r:∀l x,E2.r l=ς x↔l≠o/\E1.r l=ς x:=λl x=>by
  subst hE2
  show(if l=o then ξ else E1.r l)=ς x↔_
  split<;>simp_all
 have e_T:∀l k,E2.T l k↔E1.T l k\/(l=o/\k=bo):=λl k=>by subst hE2;exact Iff.rfl
 have e_F:E2.F=E1.F:=by subst hE2;rfl
 have e_G:E2.G=E1.G:=by subst hE2;rfl
 have e_Z:E2.Z=E1.Z:=by subst hE2;rfl
 have e_n:E2.n=E1.n:=by subst hE2;rfl
 have hF1:¬E1.F bo:=λh=>(ext.F' bo h).elim hF (λh=>by omega)
 have hin:cx.In bo:=((ok.rb o bo co hro).2).resolve_right (λh=>by rw[hrv] at h;exact absurd h.2 (by decide))
 have ok2:dr cx E2 w':=by
  refine⟨by rw[e_F];exact ok1.fb,by rw[e_F,e_G];exact ok1.gf,by rw[e_G];exact ok1.gn,λl k z h=>ok1.rb l k z ((e_r _ _).1 h).2,λl l' k z z' h h'=>ok1.inj l l' k z z' ((e_r _ _).1 h).2 ((e_r _ _).1 h').2,ok1.os,ok1.tape,ok1.output,ok1.size,ok1.block,λl x hx h=>ok1.pin l x hx ((e_r _ _).1 h).2,by rw[e_F];exact ok1.ff,by rw[e_F];exact ok1.gc,⟨λl k h=>?_,λl l' k h h'=>?_,λk h=>?_,ok1.sf.zs,by rw[e_Z];exact ok1.sf.ze⟩⟩
  .rcases(e_T l k).1 h with h|⟨rfl,rfl⟩
   .obtain⟨k1,k2,k3,k4⟩:=ok1.sf.tb l k h
    exact⟨k1,by rw[e_F];exact k2,λl' z hz=>k3 l' z ((e_r _ _).1 hz).2,k4⟩
   exact⟨⟨(ok1.rb _ _ _ hro1).1,hin⟩,by rw[e_F];exact hF1,λl' z hz=>((e_r _ _).1 hz).1 (ok1.inj _ _ _ _ _ ((e_r _ _).1 hz).2 hro1),.mk ((hw k hbo).trans hho)⟩
  .rcases(e_T l k).1 h with h|⟨rfl,rfl⟩<;>rcases(e_T l' k).1 h' with h'|⟨rfl,h'⟩
   .exact ok1.sf.tt l l' k h h'
   .subst h';exact absurd hro1 ((ok1.sf.tb l k h).2.2.1 _ _)
   .exact absurd hro1 ((ok1.sf.tb l' _ h').2.2.1 _ _)
   rfl
  obtain⟨k1,k2,k3,k4⟩:=ok1.sf.zc k h
  exact⟨k1,by rw[e_F];exact k2,λl' z hz=>k3 l' z ((e_r _ _).1 hz).2,k4⟩
 have hcell:∀(j:Nat) (xd:D),ns[j]?=ς xd->∃u' g,w'.cell? ⟨b,j,ξ⟩=ς u'/\gs[j]?=ς g/\fw w (λk=>g=ζ/\(E.T o k\/k=bo)) xd u':=λj xd hj=>by
  obtain⟨c',g,c1,c2,c3⟩:=v2 j xd hj
  have hj2:(uarr.toList.map exV)[j]?=ς (exV c'):=by rw[ada,c1];rfl
  have hr2:rdL w' (E1.H ζ) (uarr.toList.map exV) b 0:=by rw[rdLL] at hrd;exact hrd.1
  obtain⟨u',u1,u2⟩:=iz hr2 hj2
  rw[aa5] at u1
  have:=(XC (w':=w) (F':=E.F) c3.rd).2.2 _ _ _ u2
  subst this
  exact⟨u',g,u1,c2,c3⟩
 have hTr:dJ w' (E2.T o) [ns] b:=by
  refine dJ.iff.2 ⟨λk b'=>gs[k]?=ς ζ/\(E.T o b'\/b'=bo),⟨λk b' hk=>?_,λk k' b' hk hk'=>ON hg hk.1 hk'.1⟩,λj xd hj=>?_⟩
  .refine⟨(e_T _ _).2 (hk.2.imp (ext.T _ _) λh=>⟨rfl,h⟩),λe=>?_⟩
   subst e
   rcases hk.2 with h|h
   .exact(ok1.sf.tb o b' (ext.T _ _ h)).2.2.1 _ _ hr'
   exact hbb h
  simp at hj
  obtain⟨u',g,u1,u2,u3⟩:=hcell j xd hj
  refine⟨u',u1,u3.keep (λb' hb'=>hw b' ?_) λb' hb'=>⟨by rw[u2,hb'.1],hb'.2⟩⟩
  rcases hb'.2 with h|h
  .exact(ok.sf.tb o b' h).1.1
  rw[h];exact hbo
 refine⟨u,E2,rfl,ok2,⟨λl x hl h=>(e_r _ _).2 ⟨λe=>hl (by rw[e]),ext.r _ _ h⟩,λk h=>by rw[e_F];exact ext.F k h,λk h=>by rw[e_G];exact ext.G k h,λk h=>(ext.F' k (by rw[e_F] at h;exact h)).imp id .inl,λk hk _ _=>hw k hk,(λ_ _ _ _ h=>by cases h),λl k z hl hz=>?_,λl k h=>(e_T _ _).2 (.inl (ext.T _ _ h)),λl k h=>?_,by rw[e_Z];exact ext.Z,by rw[e_n];exact ext.n⟩,?_,λl x hm=>?_,(λ_ _ h=>by cases h),λl x hl=>hdom l x ((e_r _ _).1 hl).2 |>.imp id λ⟨_,h⟩=>by simp at h;exact⟨_,by rw[h.1];exact .head _⟩⟩
 .cases hl;rw[hro] at hz;cases hz;exact hF
 .rcases(e_T l k).1 h with h|⟨rfl,rfl⟩
  .rcases ext.T' l k h with h|⟨h0,x,h⟩
   .exact .inl h
   by_cases e:l=o
   .subst e;rw[hro] at h0;cases h0
   exact .inr (.inl ⟨h0,x,(e_r _ _).2 ⟨e,h⟩⟩)
  exact .inr (.inr ⟨rfl,_,hro⟩)
 .obtain⟨b1,c1,h1,h2⟩:=hvu
  exact⟨b1,c1,(e_r _ _).2 ⟨hoq.symm,h1⟩,h2⟩
 simp at hm;obtain⟨rfl,rfl⟩:=hm
 exact⟨b,c,arr,(e_r _ _).2 ⟨hoq.symm,hr'⟩,hh,ha,by simpa using hlc,hmx,λe' he'=>by simp at he';subst he';exact hsz,hTr.rdT,λ_=>by rw[e_F];exact hFb rfl,(λh=>by cases h),hTr⟩
theorem bdkT{rt rz nx':Nat}(o:Nat){cs:List C}{gs:List Bool}{ms:List Nat}[dz P t e sz by_](hx:opT sl p= .v (.agg cs):=by exact rfl)(ho:go ob o=ς (.row rt rz els (.s o) ζ):=by exact rfl)(hv:VZ o els cs=ς ((ns,gs),ms):=by exact rfl)(hms:∀n∈ms,n=els.length:=by simp)(hg:QR gs=true:=by exact rfl)(hs:fW ns.length sz=true:=by exact rfl)(h24:abD sz 16777216=true:=by exact rfl)(hrv:rsv o=false:=by exact rfl)(hnv:rsv nx=false:=by exact rfl)(hd:nlt d N=true:=by exact rfl)(hnx:nxt nx=ς nx':=by exact rfl):
 NX P N ⟨ς d,.buildSlice t 1 #[(0,p)],ty,ps,af,gd⟩ ⟨sl,ob,nx⟩ ⟨(d,.v (.c (.w nx 1)))::sl,(nx,.row e sz [ns] (.s o) ζ)::ob,nx'⟩ ⟨⟨d,[(p,.v (.agg cs))],[(o,.row rt rz els (.s o) ζ)],.v (.c (.w nx 1)),[(nx,.row e sz [ns] (.s o) ζ)]⟩,[],ς o⟩:=by
 refine⟨abC hv hms hg hs h24 hrv,.inl ⟨rfl,bV hd⟩,⟨hx,θ⟩,⟨ho,θ⟩,rL hnx,rfl⟩
end
theorem Tk(q l:Nat):mgs [ς q] l=mg q l:=by
 funext k
 unfold mgs mg
 simp only[CN]
 by_cases h:k=q
 .subst h;simp
 have h1:fW k q=false:=gQ h
 have h2:fW q k=false:=gQ (Ne.symm h)
 simp[h1,h2]
section
variable{P:Program}{N:Nat}{d:Tmp}{ty:TypeId}{ps:String}{af:Array Edge}{gd:Option (Nat×Bool)}{x y:Operand}{sl:Lab}{ob:Laa}{nx:Nat}{α:Type}{enc:α->List D}
theorem apTt{o o2:Nat}{ys:List α}{a:α}{sl1:Lab}{ob1:Laa}[dz P t e sz by_](H:c8 by_ (ys++[a]).length=ζ)(hd:nlt d N=true:=by exact rfl)(hx:opT sl x= .v (.c (.w o n)):=by exact rfl)(hy:opT sl y= .v (.c (.w o2 1)):=by exact rfl)(ho:go ob o=ς (.row e sz (ys.map enc) (.s l) ζ):=by exact rfl)(ho2:go ob o2=ς (.row e sz [ns] (.s q) ζ):=by exact rfl)(henc:enc a=ns:=by exact rfl)(hrv:rsp o=false:=by exact rfl)(hlq:fW l q=false:=by exact rfl)(hlx:nlt l nx=true:=by exact rfl)(hs1:pZ (mgC [ς q] l) sl=ς sl1:=by exact rfl)(hs2:nL (mgC [ς q] l) (mgO [ς q] l) ob=ς ob1:=by exact rfl)(hk:nX o sl1=ς sl':=by exact rfl)(hkb:jE o ob1=ς ob':=by exact rfl)(hn:ys.length=n:=by first|rfl|simp):
 AWO P N ⟨ς d,.call ⟨.builtin .append,#[x,y],#[t,t]⟩,ty,ps,af,gd⟩ ⟨sl,ob,nx⟩ ⟨(d,.v (.c (.w o (ys++[a]).length)))::sl',(o,.row e sz ((ys++[a]).map enc) (.s l) ζ)::ob',nx⟩:=by
 subst henc;subst hn
 simp only[c8,decide_eq_true_eq,ads,List.length_singleton] at H
 rw[QF hs1,Tk] at hk
 rw[AU hs2,Tk] at hkb
 have:=QP (P:=P) (N:=N) (d:=d) (ty:=ty) (ps:=ps) (af:=af) (gd:=gd) (nx:=nx) (t:=t) (e:=e) (sz:=sz) (by_:=by_) (n:=ys.length) (m:=1) (l:=l) (q:=q) hrv (bV hd) hx hy ho ho2 hlq hlx hk hkb (by simp) rfl H.1 H.2
 simpa using this
end
inductive TM where
 |y (o:Nat)
 |x (o:Nat)
 |j
 |k (l:Nat)
 |w (o:Nat)
 |s (l:Nat)
 |t
 |f
 |z
def TM.c:TM->Lad->Nat->C
 | .y o,_,n=>.wn o n
 | .x o,_,n=>.wn o n
 | .j,_,_=>.any
 | .k l,e,_=>.d (.t l) (.l e)
 | .w o,_,n=>.w o n
 | .s l,e,_=>.d (.s l) (.l e)
 | .t,e,_=>.d ζ (.l e)
 | .f,e,_=>.d η (.l e)
 | .z,_,_=>.nil
def kT:List TM->List F->List C
 |ms,.s d::r=>.d η d::kT ms r
 |m::ms,.l _ _ e n::r=>m.c e n::kT ms r
 |_,_=>[]
def TM.o:TM->Nat->Nat->Lad->Laa->Laa
 | .y o,a,b,e,r=>(o,.rown a b e ζ)::r
 | .x o,a,b,e,r=>(o,.rown a b e (.s o))::r
 | .w o,a,b,e,r=>(o,.row a b e (.s o) ζ)::r
 |_,_,_,_,r=>r
def rT:List TM->List F->Laa->Laa
 |ms,.s _::r,q=>rT ms r q
 |m::ms,.l t z e _::r,q=>m.o t z e (rT ms r q)
 |_,_,q=>q
def oT(ms:List TM)(o ty:Nat)(x:List F):Laa:=rT ms x [(o,.var ty (kT ms x))]
def m3:Lac:=[(190,190),(191,191),(192,192),(193,193),(194,194)]
def m4:Lac:=[(194,194),(190,190),(191,191),(192,192),(193,193),(200,200)]
structure MkS(P:Program)(f:FuncId)(xs xs':Lad)(k k':Int):Prop where
 enters:∀(vs:Array Value) (w:World),(callFunc f vs).run P w= .ok (.enter f vs) w
 calls:∀(w:World) (T:Nat->Prop) (A:Option Addr) (c:Nat) (vals:Array Value),TabsIn w->(∀b,T b->b<w.heap.size/\fR w b)->(∀b∈qD,¬T b)->fw w T (.l xs) (.slice A xs.length c)->vals.toList=[.slice A xs.length c,.int .i64 k]->
  Calls P f vals w λe w'=>∃T':Nat->Prop,e= .returned (.int .i64 k')/\GR w w' T/\(∀b,T' b->(b<w'.heap.size/\(T b\/w.heap.size<=b))/\fR w' b)/\fw w' T' (.l xs') (.slice A xs.length c)
theorem OG{enc:α->List D}{ys ys':List α}{k k':Int}(henc:∀a,(enc a).length=sz)(hl:ys'.length=ys.length)(h:∀ty,FnV P f [(200,.row ty sz (ys.map enc) (.s 200) ζ)] [.v (.c (.w 200 ys.length)),tI k] [(200,.row ty sz (ys'.map enc) (.s 200) ζ)] (tI k') [])(h0:ys=[]->Fn P f [aL [],aI k] [.c (.d (.i .i64 k'))]):MkS P f (ys.map enc) (ys'.map enc) k k':=by
 refine⟨(h 0).enters,λw T A c vals hT hTb hTs ht hv=>?_⟩
 have ht0:=ht
 rw[fw] at ht
 obtain⟨A',c',e1,hlc,ht⟩:=ht
 cases e1
 rcases ht with hnil|⟨b,Q,hA,hb,hQ,htr,arr,ty,sz',hh,ha,hm,hs⟩
 .have hy:ys=[]:=by cases ys with|nil=>rfl|cons _ _=>cases hnil
  subst hy
  have hy':ys'=[]:=adn (by simpa using hl)
  subst hy'
  have hA:AR w (λ_=>False) [aL [],aI k] vals.toList:=by
   rw[hv]
   refine⟨?_,rfl,θ⟩
   show rdD w (λ_=>False) (.l []) _
   rw[rdD];exact⟨A,c,rfl,abm _,.inl rfl⟩
  refine((h0 rfl).calls (λ_=>False) w vals (λ_ h=>h.elim) hT hA).mono ?_
  rintro e w' ⟨v,G,bs,rfl,hp,hG,hres,_⟩
  obtain⟨_,hr⟩:bs=[]/\rdD w' G (.i .i64 k') v:=hres
  have hr:v= .int .i64 k':=by simpa [rdD] using hr
  subst hr
  refine⟨λ_=>False,rfl,⟨hp.os,hp.tape,hp.output,hp.size,λb hb _=>hp.block b hb (λh=>h)⟩,λ_ h=>h.elim,?_⟩
  rw[fw];exact⟨A,c,rfl,abm _,.inl rfl⟩
 by_cases hy:ys=[]
 .subst hy
  have hy':ys'=[]:=adn (by simpa using hl)
  subst hy'
  have hA':AR w (λ_=>False) [aL [],aI k] vals.toList:=by
   rw[hv]
   refine⟨?_,rfl,θ⟩
   show rdD w (λ_=>False) (.l []) _
   rw[rdD];exact⟨A,c,rfl,abm _,.inl rfl⟩
  refine((h0 rfl).calls (λ_=>False) w vals (λ_ h=>h.elim) hT hA').mono ?_
  rintro e w' ⟨v,G,bs,rfl,hp,hG,hres,_⟩
  obtain⟨_,hr⟩:bs=[]/\rdD w' G (.i .i64 k') v:=hres
  have hr:v= .int .i64 k':=by simpa [rdD] using hr
  subst hr
  refine⟨λ_=>False,rfl,⟨hp.os,hp.tape,hp.output,hp.size,λb hb _=>hp.block b hb (λh=>h)⟩,λ_ h=>h.elim,?_⟩
  rw[fw];exact⟨A,c,rfl,abm _,.inl rfl⟩
 obtain⟨y,hy0⟩:∃y,y∈ys:=List.exists_mem_of_ne_nil _ hy
 have hsz:sz'=sz:=by rw[<-hs (enc y) (adP.2 ⟨y,hy0,rfl⟩),henc]
 subst hsz
 subst hA
 obtain⟨E,hE⟩:∃E:Env,E={r:=λo=>if o=200 then ς (b,c) else ξ,F:=λ_=>False,G:=λ_=>False,T:=λl j=>l=200/\T j/\j≠b}:=⟨_,rfl⟩
 have e_r:∀o x,E.r o=ς x↔o=200/\x=(b,c):=λo x=>by
  subst hE
  show(if o=200 then ς (b,c) else ξ)=ς x↔_
  split
  .rename_i h;subst h;simp[eq_comm]
  rename_i h;simp[h]
 have e_T:∀l j,E.T l j↔l=200/\T j/\j≠b:=λl j=>by subst hE;exact Iff.rfl
 have e_F:∀j,¬E.F j:=by subst hE;exact λ_ h=>h
 have e_G:∀j,¬E.G j:=by subst hE;exact λ_ h=>h
 have hVI:VIn E w:=⟨λj h=>absurd h (e_F j),λj h=>absurd h (e_G j),λo b' c' h=>by
  obtain⟨rfl,q⟩:=(e_r _ _).1 h;cases q;exact⟨(hTb b hb).1,rfl,e_F b⟩,λo o' b' c1 c2 h h'=>by
  obtain⟨rfl,_⟩:=(e_r _ _).1 h;obtain⟨rfl,_⟩:=(e_r _ _).1 h';rfl,λl j h=>by
  obtain⟨rfl,h1,h2⟩:=(e_T _ _).1 h
  exact⟨(hTb j h1).1,e_F j,λo c' ho=>by obtain⟨_,q⟩:=(e_r _ _).1 ho;cases q;exact h2 rfl,(hTb j h1).2,by decide⟩,λl l' j h h'=>by
  rw[((e_T _ _).1 h).1,((e_T _ _).1 h').1],λj hj l h=>hTs j hj ((e_T _ _).1 h).2.1,by subst hE;exact λ_ h=>h⟩
 have hTR:dJ w (E.T 200) (ys.map enc) b:=⟨Q,⟨λj x hx=>⟨(e_T _ _).2 ⟨rfl,(hQ.1 j x hx).1,(hQ.1 j x hx).2⟩,(hQ.1 j x hx).2⟩,hQ.2⟩,htr⟩
 have hrow:cN E w 200 (.row ty sz' (ys.map enc) (.s 200) ζ):=⟨b,c,arr,(e_r _ _).2 ⟨rfl,rfl⟩,hh,ha,by simpa using hlc,hm,hs,hTR.rdT,λ_=>e_F b,(λh=>by cases h),hTR⟩
 have hTV:TV E w [.v (.c (.w 200 ys.length)),tI k] vals.toList:=by
  rw[hv]
  exact⟨⟨b,c,(e_r _ _).2 ⟨rfl,rfl⟩,by rw[adb]⟩,by show rdD w E.F (.i .i64 k) _;rw[rdD],θ⟩
 refine((h ty).calls E w vals hVI hT (λj hj o c' ho=>by obtain⟨_,q⟩:=(e_r _ _).1 ho;cases q;exact hTs _ hj hb) (λl x hx=>by
  by_cases e:l=200
  .subst e;cases hx;exact hrow
  rw[bg _ _ (Ne.symm e)] at hx;cases hx) hTV).mono ?_
 rintro e w' ⟨v,E',rfl,vo,hv',hys,_⟩
 obtain⟨b',c',arr',hr',hh',ha',hl',hm',hs',hrd',hF',_,hT'⟩:=hys 200 _ rfl
 have hbc:=(e_r _ _).1 (vo.pin 200 _ rfl hr')
 obtain⟨_,q⟩:=hbc;cases q
 have hT':dJ w' (E'.T 200) (ys'.map enc) b:=hT'
 have hv':rdD w' E'.F (.i .i64 k') v:=hv'
 have hv':v= .int .i64 k':=by simpa [rdD] using hv'
 subst hv'
 refine⟨λj=>E'.T 200 j\/j=b,rfl,⟨vo.past.os,vo.past.tape,vo.past.output,vo.past.size,λj hj hW=>vo.past.block j hj (λh=>?_)⟩,λj hj=>?_,?_⟩
 .rcases h with⟨o,c1,h⟩|⟨l,h⟩
  .obtain⟨_,q⟩:=(e_r _ _).1 h;cases q;exact hW hb
  exact hW ((e_T _ _).1 h).2.1
 .rcases hj with hj|rfl
  .obtain⟨⟨h1,h2⟩,_,_,h3⟩:=vo.T 200 j hj
   exact⟨⟨h1,h2.elim .inr λ⟨l,h⟩=>.inl ((e_T _ _).1 h).2.1⟩,h3⟩
  exact⟨⟨SB hh',.inl hb⟩,.mk hh'⟩
 have:=hT'.tree hl' ⟨arr',ty,sz',hh',ha',hm',hs'⟩
 rw[show(ys.map enc).length=(ys'.map enc).length by simp[hl]]
 exact this
theorem Ks{sz j:Nat}{e:List D}{d:D}(hj:e[j]?=ς d):∀{zs:Lad} {i:Nat},(∀e∈zs,e.length=sz)->zs[i]?=ς e->zs.flatten[i*sz+j]?=ς d
 |[],i,_,h=>by simp at h
 |z::zs,i,hs,h=>by
  have hz:=hs z (by simp)
  rw[adr]
  cases i with
  |zero=>simp at h;subst h;rw[aey,aa5,aa8 (f5.1 hj).1];exact hj
  |succ i=>
   rw[aa3 (by rw[hz,aew];omega),hz,show(i+1)*sz+j-sz=i*sz+j by rw[aew];omega]
   exact Ks (i:=i) hj (λx hx=>hs x (by simp[hx])) (by simpa using h)
theorem Kt{sz j:Nat}{e:List D}{d x:D}:∀{zs:Lad} {i k:Nat},(∀e∈zs,e.length=sz)->zs[i]?=ς e->j<sz->(zs.set i (e.set j x)).flatten[k]?=ς d->(k=i*sz+j/\d=x)\/(k≠i*sz+j/\zs.flatten[k]?=ς d)
 |[],i,k,_,h,_,_=>by simp at h
 |z::zs,i,k,hs,h,hj,hk=>by
  have hz:=hs z (by simp)
  cases i with
  |zero=>
   simp at h;subst h
   rw[List.set_cons_zero,adr] at hk
   rw[adr,aey,aa5]
   by_cases hl:k<sz
   .rw[aa8 (by simp[hz,hl])] at hk
    by_cases e:k=j
    .subst e;rw[aeI oaa] at hk;exact .inl ⟨rfl,(Option.some.inj hk).symm⟩
    rw[List.getElem?_set_ne (Ne.symm e)] at hk;exact .inr ⟨e,by rw[aa8 oaa];exact hk⟩
   rw[aa3 (by simp[hz];omega),aez] at hk
   exact .inr ⟨by omega,by rw[aa3 oaa];exact hk⟩
  |succ i=>
   rw[List.set_cons_succ,adr] at hk
   rw[adr]
   have hm:(i+1)*sz+j=i*sz+j+sz:=by rw[aew];omega
   by_cases hl:k<sz
   .rw[aa8 oaa] at hk
    exact .inr ⟨by omega,by rw[aa8 oaa];exact hk⟩
   rw[aa3 oaa,hz] at hk
   rcases Kt (i:=i) (k:=k-sz) (λx hx=>hs x (by simp[hx])) (by simpa using h) hj hk with⟨h1,h2⟩|⟨h1,h2⟩
   .exact .inl ⟨by omega,h2⟩
   exact .inr ⟨by omega,by rw[aa3 oaa,hz];exact h2⟩
section
variable{P:Program}{N:Nat}{ops:Array Oper}{lo:List Oper}{K:St->Prop}{sl:Lab}{ob:Laa}{nx:Nat}
theorem awr_mk{d1 d2 d3:Tmp}{ty1 ty2 ty3:TypeId}{ps1 ps2 ps3:String}{af1 af2 af3:Array Edge}{x kx:Operand}{tys:Array TypeId}{o rt i:Nat}{e:List D}{xs xs':Lad}{k k':Int}[ht:g9 P t](hF:MkS P f xs xs' k k')(hx:opT sl x= .v (.c (.e o sz i j)))(hk:opT ((d1,.any)::sl) kx=tI k)(ho:go ob o=ς (.row rt sz els (.s l) ζ))(he:els[i]?=ς e)(hj:e[j]?=ς (.l xs))(hs:Hf l sl=ς sl')(hd:Qm o ob=ob')(hn:noR l ob'=ζ)(hlx:nlt l nx=ζ)(h1:nlt d1 N=ζ)(h2:nlt d2 N=ζ)(h3:nlt d3 N=ζ)(h12:fW d1 d2=η)(h:AWR P N ops lo ⟨(d3,tI k')::(d2,tI k)::(d1,.any)::sl',(o,.row rt sz (els.set i (e.set j (.l xs'))) (.s l) ζ)::ob',nx⟩ K):
 AWR P N ops (⟨ς d1,.load t x,ty1,ps1,af1,ξ⟩::⟨ς d2,.move kx,ty2,ps2,af2,ξ⟩::⟨ς d3,.call ⟨.value (.func f),#[.tmp d1,.tmp d2],tys⟩,ty3,ps3,af3,ξ⟩::lo) ⟨sl,ob,nx⟩ K:=by
 intro cx E a w hR
 have ok:=hR.ok
 have a1:=hR.op x;rw[hx] at a1
 obtain⟨b,c,hr,hu⟩:=a1
 obtain⟨b',c',arr,hr',hh,ha,hl,hm,hes,hrd,hF0,_,hT⟩:=hR.obs o _ ho
 rw[hr] at hr';cases hr'
 have hF0:=hF0 rfl
 have hT:dJ w (E.T l) els b:=hT
 obtain⟨Q,hQ,hc⟩:=dJ.iff.1 hT
 have hel:e.length=sz:=hes e (v0 he)
 have hjl:j<sz:=by rw[<-hel];exact(f5.1 hj).1
 obtain⟨u,hu1,ht1⟩:=hc _ _ (Ks (i:=i) hj hes he)
 have ht0:=ht1
 rw[fw] at ht0
 obtain⟨A,cc,rfl,_⟩:=ht0
 have run1:(execOp a.eval ⟨ς d1,.load t x,ty1,ps1,af1,ξ⟩).run P w= .ok (.value (.slice A xs.length cc)) w:=by
  simp[execOp,hu,pV (P:=P) (t:=t) hu1]
 rw[lV,if_pos (by simp[Region.wanted])]
 refine .inl ?_
 unfold Oper.wp
 rw[run1]
 show wpList P ops _ _ (a.put (ς d1) (.slice A xs.length cc)) w
 have hR1:=hR.putAny (bV h1) (.slice A xs.length cc)
 obtain⟨a1,ha1⟩:∃a1,a1=a.put (ς d1) (.slice A xs.length cc):=⟨_,rfl⟩
 rw[<-ha1] at hR1 ⊢
 have hkv:a1.eval kx= .int .i64 k:=by
  have:=hR1.op kx;rw[hk] at this
  simpa [rdD] using vA this
 have run2:(execOp a1.eval ⟨ς d2,.move kx,ty2,ps2,af2,ξ⟩).run P w= .ok (.value (.int .i64 k)) w:=by
  simp[execOp,hkv]
 rw[lV,if_pos (by simp[Region.wanted])]
 refine .inl ?_
 unfold Oper.wp
 rw[run2]
 show wpList P ops _ _ (a1.put (ς d2) (.int .i64 k)) w
 obtain⟨a2,ha2⟩:∃a2,a2=a1.put (ς d2) (.int .i64 k):=⟨_,rfl⟩
 rw[<-ha2]
 have hne:d1≠d2:=hP h12
 have s1:a1.tmps.size=N:=hR1.size
 have v1:a2.eval (.tmp d1)= .slice A xs.length cc:=by
  show a2.tmps.getD d1 undef=_
  rw[ha2,ef (by rw[s1];exact bV h2),if_neg (Ne.symm hne),ha1,ef (by rw[hR.size];exact bV h1),if_pos rfl]
 have v2:a2.eval (.tmp d2)= .int .i64 k:=by
  show a2.tmps.getD d2 undef=_
  rw[ha2,ef (by rw[s1];exact bV h2),if_pos rfl]
 have hent:=hF.enters #[.slice A xs.length cc,.int .i64 k] w
 have run3:(execOp a2.eval ⟨ς d3,.call ⟨.value (.func f),#[.tmp d1,.tmp d2],tys⟩,ty3,ps3,af3,ξ⟩).run P w= .ok (.enter f #[.slice A xs.length cc,.int .i64 k]) w:=by
  simp only[execOp,resolve,Deferred.ofValue,Sem.run_bind,Sem.run_pure,Result.andThen_ok,invoke]
  have e0:a2.eval (.func f)= .func (.func f) #[] #[]:=rfl
  rw[e0]
  simpa [v1,v2,invoke] using hent
 rw[lV,if_pos (by simp[Region.wanted])]
 refine .inl ?_
 unfold Oper.wp
 rw[run3,Oper.upon_enter]
 have hQT:∀z,Q (i*sz+j) z->E.T l z:=λz hz=>(hQ.1 _ _ hz).1
 refine(hF.calls w (Q (i*sz+j)) A cc #[.slice A xs.length cc,.int .i64 k] ok.tabs (λz hz=>⟨(ok.sf.tb l z (hQT z hz)).1.1,(ok.sf.tb l z (hQT z hz)).2.2.2⟩) (λz hz hz'=>ok.nt hz (hQT z hz')) ht1 rfl).mono ?_
 rintro e' w' ⟨T',rfl,hp,hT',ht'⟩
 have hsz:=hp.size
 have hws:=ok.size
 obtain⟨E',hE'⟩:∃E':Env,E'={E with T:=λm z=>(E.T m z/\¬Q (i*sz+j) z)\/(m=l/\T' z)}:=⟨_,rfl⟩
 have e_T:∀m z,E'.T m z↔(E.T m z/\¬Q (i*sz+j) z)\/(m=l/\T' z):=λm z=>by subst hE';exact Iff.rfl
 have e_r:E'.r=E.r:=by subst hE';rfl
 have e_F:E'.F=E.F:=by subst hE';rfl
 have e_G:E'.G=E.G:=by subst hE';rfl
 have e_Z:E'.Z=E.Z:=by subst hE';rfl
 have e_n:E'.n=E.n:=by subst hE';rfl
 have hnF:∀z,E.F z->¬E.T l z:=λz h h'=>(ok.sf.tb l z h').2.1 h
 have hold:∀z,z<w.heap.size->¬E.T l z->w'.heap[z]?=w.heap[z]?:=λz hz hn=>hp.block z hz (λh=>hn (hQT z h))
 have hTn:∀z,T' z->E.T l z\/w.heap.size<=z:=λz hz=>(hT' z hz).1.2.imp (hQT z) id
 have kr:pJ l E w E' w':=⟨λo x h=>by rw[e_r];exact h,λg z h=>by cases g;(show E'.F z;rw[e_F];exact h);(show E'.G z;rw[e_G];exact h),λg z h=>hold z (ok.hb h) (by cases g;exact hnF z h;exact hnF z (ok.gf z h)),λm z hml h=>⟨(e_T m z).2 (.inl ⟨h,λh'=>hml (ok.sf.tt m l z h (hQT z h'))⟩),hold z (ok.sf.tb m z h).1.1 (λh'=>hml (ok.sf.tt m l z h h'))⟩,λz h=>⟨by rw[e_Z];exact h,.of_eq (hold z (ok.sf.zb z h).1.2.1 (λh'=>ok.sf.tz h' (ok.sf.ze z h)))⟩,e_n⟩
 have hrow:∀o b c,E.r o=ς (b,c)->w'.heap[b]?=w.heap[b]?:=λo b c hr=>hold b (ok.rb o b c hr).1 (λh=>(ok.sf.tb l b h).2.2.1 o c hr)
 have ok':dr cx E' w':=by
  refine⟨λz h=>by rw[e_F] at h;have:=ok.fb z h;omega,by rw[e_F,e_G];exact ok.gf,by rw[e_G];exact ok.gn,λo b c h=>by rw[e_r] at h;exact⟨by have:=(ok.rb o b c h).1;omega,(ok.rb o b c h).2⟩,by rw[e_r];exact ok.inj,hp.os.trans ok.os,hp.tape.trans ok.tape,hp.output.trans ok.output,by omega,λz hz hW=>?_,by rw[e_r];exact ok.pin,by rw[e_F];exact ok.ff,λz h h'=>by rw[e_F] at h;exact(ok.gc z h h').of_eq (hold z (ok.fb z h) (hnF z h)),⟨λm z h=>?_,λm m' z h h'=>?_,λz h=>?_,λz h=>?_,by rw[e_Z];exact ok.sf.ze⟩⟩
  .rw[hp.block z oaa (λhq=>(ok.sf.tb l z (hQT z hq)).1.2.nw.elim (λ_=>by omega) hW)];exact ok.block z hz hW
  .rcases(e_T m z).1 h with⟨h,hq⟩|⟨e1,h0⟩
   .obtain⟨k1,k2,k3,k4⟩:=ok.sf.tb m z h
    exact⟨⟨by omega,k1.2⟩,by rw[e_F];exact k2,by rw[e_r];exact k3,k4.of_eq (hp.block z k1.1 hq)⟩
   obtain⟨⟨k1,k2⟩,k3⟩:=hT' z h0
   rcases hTn z h0 with h'|h'
   .obtain⟨q1,q2,q3,q4⟩:=ok.sf.tb l z h'
    exact⟨⟨k1,q1.2⟩,by rw[e_F];exact q2,by rw[e_r];exact q3,k3⟩
   exact⟨⟨k1,.inl oaa⟩,λhf=>by rw[e_F] at hf;have:=ok.fb z hf;omega,λo c ho=>by rw[e_r] at ho;have:=(ok.rb o z c ho).1;omega,k3⟩
  .have key:∀m z,E.T m z->T' z->m=l:=λm z h1 h2=>by
    rcases hTn z h2 with h3|h3
    .exact ok.sf.tt _ _ _ h1 h3
    have:=(ok.sf.tb m z h1).1.1;omega
   rcases(e_T m z).1 h with⟨g1,_⟩|⟨e1,g1⟩<;>rcases(e_T m' z).1 h' with⟨g2,_⟩|⟨e2,g2⟩
   .exact ok.sf.tt _ _ _ g1 g2
   .rw[e2];exact key m z g1 g2
   .rw[e1];exact(key m' z g2 g1).symm
   rw[e1,e2]
  .obtain⟨k1,k2,k3,k4⟩:=ok.sf.zc z h
   exact⟨⟨k1.1,by omega,k1.2.2⟩,by rw[e_F];exact k2,by rw[e_r];exact k3,k4.of_eq (hold z k1.2.1 (λh'=>ok.sf.tz h' h))⟩
  exact(ok.sf.zs z h).trans (.of_eq (hold z (ok.sf.zc z h).1.2.1 (λh'=>ok.sf.tz h' h)))
 have hbw:w'.heap[b]?=w.heap[b]?:=hrow o b c hr
 have hTR:dJ w' (E'.T l) (els.set i (e.set j (.l xs'))) b:=by
  refine dJ.iff.2 ⟨λm z=>if m=i*sz+j then T' z else Q m z,⟨λm z hz=>?_,λm m' z hz hz'=>?_⟩,λm dd hm'=>?_⟩
  .dsimp only at hz
   split at hz
   .refine⟨(e_T l z).2 (.inr ⟨rfl,hz⟩),λhq=>?_⟩
    subst hq
    rcases hTn z hz with h'|h'
    .exact(ok.sf.tb l z h').2.2.1 o c hr
    have:=(ok.rb o z c hr).1;omega
   rename_i hne';exact⟨(e_T l z).2 (.inl ⟨(hQ.1 m z hz).1,λhq=>hne' (hQ.2 _ _ _ hz hq)⟩),(hQ.1 m z hz).2⟩
  .have key:∀m,m≠i*sz+j->Q m z->T' z->False:=λm h1 h2 h3=>by
    rcases(hT' z h3).1.2 with h4|h4
    .exact h1 (hQ.2 _ _ _ h2 h4)
    have:=(ok.sf.tb l z (hQ.1 m z h2).1).1.1;omega
   dsimp only at hz hz'
   split at hz<;>split at hz'
   .omega
   .rename_i q1 q2;exact(key m' q2 hz' hz).elim
   .rename_i q1 q2;exact(key m q1 hz hz').elim
   exact hQ.2 _ _ _ hz hz'
  rcases Kt (sz:=sz) (i:=i) hes he hjl hm' with⟨rfl,rfl⟩|⟨hmn,hm'⟩
  .exact⟨_,(Av hbw).trans hu1,by simpa using ht'⟩
  obtain⟨u',q1,q2⟩:=hc m dd hm'
  refine⟨u',(Av hbw).trans q1,q2.keep (λz hz=>hp.block z (ok.sf.tb l z (hQ.1 m z hz).1).1.1 (λhq=>hmn (hQ.2 _ _ _ hz hq))) (λz hz=>by show(if m=i*sz+j then T' z else Q m z);rw[if_neg hmn];exact hz)⟩
 refine h cx E' (a2.put (ς d3) (.int .i64 k')) w' ⟨ok',by rw[e_r];exact hR.dom,λm y hm'=>?_,λm=>?_,?_,?_,λm z hz=>?_⟩
 .by_cases hmo:o=m
  .subst hmo
   rw[bX] at hm';cases hm'
   exact⟨b,c,arr,by rw[e_r];exact hr,hbw.trans hh,ha,by simpa using hl,hm,λe1 he1=>by
    rcases aeA he1 with h'|h'
    .exact hes e1 h'
    rw[h',aez];exact hel,hTR.rdT,λ_=>by rw[e_F];exact hF0,(λh=>by cases h),hTR⟩
  rw[bg _ _ hmo,<-hd] at hm'
  obtain⟨_,hm2⟩:=Gl hm'
  have hob:=hR.obs m y hm2
  rw[<-hd] at hn
  cases y with
  |var t cs=>
   obtain⟨b1,c1,arr1,k1,k2,k3,k4⟩:=hob
   exact⟨b1,c1,arr1,by rw[e_r];exact k1,(hrow m b1 c1 k1).trans k2,RY kr (Ez hn hm') k3,by rw[e_F];exact k4⟩
  |row t sz1 els1 g m1=>
   obtain⟨b1,c1,arr1,k1,k2,k3,k4,k5,k6,k7,k8,k9⟩:=hob
   have hbb:=hrow m b1 c1 k1
   exact⟨b1,c1,arr1,by rw[e_r];exact k1,hbb.trans k2,k3,k4,k5,k6,bP (kr.hp (xQ hn hm')) (kr.HH (xQ hn hm')) hbb _ _ k7,λhm=>by rw[e_F];exact k8 hm,λhm=>by rw[e_F,e_G];exact k9.1 hm,GE kr hbb (xQ hn hm') k9.2⟩
  |rown t sz1 els1 g=>
   rcases hob with⟨k0,k1⟩|⟨k0,b1,c1,arr1,k1,k2,k3,k4,k5,k6,k7,k8,k9⟩
   .exact .inl ⟨by rw[e_n];exact k0,k1⟩
   have hbb:=hrow m b1 c1 k1
   exact .inr ⟨by rw[e_n];exact k0,b1,c1,arr1,by rw[e_r];exact k1,hbb.trans k2,k3,k4,k5,k6,bP (kr.hp (tY hn hm')) (kr.HH (tY hn hm')) hbb _ _ k7,by rw[e_F];exact k8,GE kr hbb (tY hn hm') k9⟩
  |abs m1 z=>
   rcases hob with⟨k0,k1⟩|⟨k0,b1,c1,k1,k2,k3⟩
   .exact .inl ⟨by rw[e_n];exact k0,k1⟩
   have hml:=GA hn hm'
   exact .inr ⟨by rw[e_n];exact k0,b1,c1,by rw[e_r];exact k1,z.st _ _ _ _ _ _ k2 (λq hq=>(kr.T m1 q hml hq).1) (hrow m b1 c1 k1) (λq hq=>(kr.T m1 q hml hq).2),by rw[e_F];exact k3⟩
 .have s2:a2.tmps.size=N:=by rw[ha2];simpa [Act.put] using s1
  rw[ef (by rw[s2];exact bV h3)]
  by_cases m3:d3=m
  .subst m3;rw[da,if_pos rfl];show rdD w' E'.F (.i .i64 k') _;rw[rdD]
  rw[ck _ _ m3,if_neg m3]
  by_cases m2:d2=m
  .subst m2;rw[da]
   have:=v2;simp only[Act.eval] at this
   rw[this];show rdD w' E'.F (.i .i64 k) _;rw[rdD]
  rw[ck _ _ m2]
  by_cases m1:d1=m
  .subst m1;rw[da];trivial
  rw[ck _ _ m1,ha2,ef (by rw[s1];exact bV h2),if_neg m2,ha1,ef (by rw[hR.size];exact bV h1),if_neg m1]
  rcases Hg hs m with q|⟨q,q'⟩
  .rw[q];trivial
  rw[q];exact Xa kr q' (hR.sl m)
 .rw[ha2,ha1];exact hR.dfr
 .rw[ha2,ha1];simpa [Act.put] using hR.size
 rcases(e_T m z).1 hz with⟨h',_⟩|⟨rfl,h'⟩
 .exact hR.td m z h'
 exact bV hlx
end
theorem ixS{ys:List α}{i:Int}{a b:α}(H:ix ys i=ς a):ix (ys.set i.toNat b) i=ς b:=by
 have:=SQ H
 obtain⟨h0,h1⟩:=ixE H
 unfold ix
 have e:leB 0 i=true:=by
  unfold ix at H;exact(rq H).1
 rw[e]
 show(ys.set i.toNat b)[i.toNat]?=ς b
 rw[aeI oaa]
theorem setS{ys:List α}{i:Nat}{a b:α}:(ys.set i a).set i b=ys.set i b:=List.set_set ..
section
variable{P:Program}{N:Nat}{ops:Array Oper}{lo:List Oper}{K:St->Prop}{sl:Lab}{ob:Laa}{nx:Nat}{α:Type}{enc:α->List D}{x y:Operand}{ty:TypeId}{ps:String}{af:Array Edge}{gd:Option (Nat×Bool)}
theorem stS{o:Nat}{i:Int}{rt:TypeId}{ys zs:List α}{a a':α}{gs:List (Option Nat)}[TyN P t n](H:ix ys i=ς a)(hx:opT sl x= .v (.c (.e o sz i.toNat j)):=by exact rfl)(hy:opT sl y= .v v:=by exact rfl)(ho:go ob o=ς (.row rt sz (ys.map enc) (.s l) ζ):=by exact rfl)(hv:tvD v=ς (ns,gs):=by exact rfl)(hg:F3 l gs=true:=by exact rfl)(hl:nlt l nx=true:=by exact rfl)(hn:fW ns.length n=true:=by exact rfl)(hs:mI j ns (enc a)=ς (enc a'):=by exact rfl)(hs1:pZ (mgC gs l) sl=ς sl':=by exact rfl)(hs2:nL (mgC gs l) (mgO gs l) ob=ς ob':=by exact rfl)(hz:ys.set i.toNat a'=zs:=by first|exact setS|rfl):
 AWO P N ⟨ξ,.store t x y,ty,ps,af,gd⟩ ⟨sl,ob,nx⟩ ⟨sl',(o,.row rt sz (zs.map enc) (.s l) ζ)::ob',nx⟩:=by
 subst hz
 exact stT H hx hy ho hv hg hl hn hs hs1 hs2
theorem mkA{d1 d2 d3:Tmp}{ty1 ty2 ty3:TypeId}{ps1 ps2 ps3:String}{af1 af2 af3:Array Edge}{kx:Operand}{tys:Array TypeId}{o rt:Nat}{i:Int}{ys zs:List α}{a a':α}{xs xs':Lad}{k k':Int}[ht:g9 P t](hF:MkS P f xs xs' k k')(H:ix ys i=ς a)(hr:R)(hx:opT sl x= .v (.c (.e o sz i.toNat j)):=by exact rfl)(hk:opT ((d1,.any)::sl) kx=tI k:=by exact rfl)(ho:go ob o=ς (.row rt sz (ys.map enc) (.s l) ζ):=by exact rfl)(hj:(enc a)[j]?=ς (.l xs):=by exact rfl)(hs':(enc a).set j (.l xs')=enc a':=by exact rfl)(hs:Hf l sl=ς sl':=by exact rfl)(hd:Qm o ob=ob':=by exact rfl)(hn:noR l ob'=true:=by exact rfl)(hlx:nlt l nx=true:=by exact rfl)(h1:nlt d1 N=true:=by exact rfl)(h2:nlt d2 N=true:=by exact rfl)(h3:nlt d3 N=true:=by exact rfl)(h12:fW d1 d2=false:=by exact rfl)(hz:ys.set i.toNat a'=zs:=by first|exact setS|rfl)(w:R->AWR P N ops lo ⟨(d3,tI k')::(d2,tI k)::(d1,.any)::sl',(o,.row rt sz (zs.map enc) (.s l) ζ)::ob',nx⟩ K:=by exact wJ):
 AWR P N ops (⟨ς d1,.load t x,ty1,ps1,af1,ξ⟩::⟨ς d2,.move kx,ty2,ps2,af2,ξ⟩::⟨ς d3,.call ⟨.value (.func f),#[.tmp d1,.tmp d2],tys⟩,ty3,ps3,af3,ξ⟩::lo) ⟨sl,ob,nx⟩ K:=by
 subst hz
 refine awr_mk hF hx hk ho (fK enc H) hj hs hd hn hlx h1 h2 h3 h12 ?_
 rw[hs',<-aeL]
 exact w hr
end
theorem Jn{ob:Laa}(o:Nat)(h:Qm o ob=ob':=by exact rfl):cO N ⟨sl,ob,nx⟩ ⟨sl,ob',nx⟩:=by
 subst h
 exact λcx E a w hR=>⟨E,hR.ok,hR.dom,λl x h=>hR.obs l x (Gl h).2,hR.sl,hR.dfr,hR.size,hR.td⟩
def QB:(Int×Int)->Option (bJ (Int×Int) Int)
 |(v1,v2)=>bif ltB v2 ((([]:Lad).length:Nat):Int) then ξ else(ς (.done v1))
theorem Oo(k:Int):iter QB FU (k,0)=ς k:=by
 have h:QB (k,0)=ς (.done k):=by simp[QB,ltB]
 unfold FU
 rw[iter,h]
theorem X9{σ ρ:Type}{step:σ->Option (bJ σ ρ)}(A:σ->Prop)(B:ρ->Prop)(h:∀x o,A x->step x=ς o->match o with| .next y=>A y| .done r=>B r){x:σ}{r:ρ}(h0:A x)(H:iter step n x=ς r):B r:=by
 induction n generalizing x with
 |zero=>cases H
 |succ n ih=>
  rw[iter] at H
  split at H
  .rename_i y hy;exact ih (h _ _ h0 hy) H
  .rename_i r' hy;cases H;exact h _ _ h0 hy
  cases H
def swR(p q k:Nat):Nat:=bif fW k p then q else bif fW k q then p else k
theorem wR{ob:Laa}(p q:Nat)(hpn:nlt p nx=true:=by exact rfl)(hqn:nlt q nx=true:=by exact rfl):cO N ⟨sl,ob,nx⟩ ⟨Gd (swR p q) sl,DB (swR p q) ob,nx⟩:=by
 intro cx E a w hR
 refine⟨_,acv (swR p q) (λk hk=>?_) (abk _) hR⟩
 have h1:=bV hpn
 have h2:=bV hqn
 unfold swR
 cases fW k p<;>cases fW k q<;>first|exact hk|exact h1|exact h2
theorem wT{ob:Laa}(p q:Nat)(hp:rsv p=false:=by exact rfl)(hq:rsv q=false:=by exact rfl)(hpn:nlt p nx=true:=by exact rfl)(hqn:nlt q nx=true:=by exact rfl):cO N ⟨sl,ob,nx⟩ ⟨Gd (swR p q) (swS p q sl),DB (swR p q) (swO p q ob),nx⟩:=aK (wS p q hp hq hpn hqn) (wR p q hpn hqn)
end Go.AM
