/- A part. -/
import Derived.Test.YtgbcdgihmgapeaaGreatE2
import Derived.Laws.IdiomStrings
set_option linter.unusedVariables false
set_option linter.unusedSimpArgs false
set_option maxHeartbeats 4000000
open Option renaming some->ς,none->ξ
open Bool renaming true->ζ,false->η
open True renaming intro->θ
open Bool renaming and_eq_true->hV,not_eq_true'->ZD,or_eq_true->ZC,or_eq_false_iff->ZB,not_true->aam,false_or->ZV
open Nat renaming eq_of_beq_eq_true->Zo,beq->d0,lt_of_lt_of_le->Zy,le_trans->Zz,mul_le_mul_right->ZI,zero_add->Zs,le_refl->Zu,lt_or_ge->ZF,zero_le->ZA,min_eq_left->aag,lt_irrefl->aaO,lt_succ_of_lt->aaL,ne_of_lt->aaH,lt_succ_self->aaP,add_mul->aaM,le_of_ble_eq_true->ZK,ble->Zw,add_zero->ZX,mul_zero->aaV,mod_lt->aaS
open List renaming getElem?_append_right->Zr,getElem?_append_left->Zt,getElem?_eq_some_iff->v0,all_eq_true->Zq,flatten_append->aah,mem_append->Zn,mem_of_mem_take->ZL,length_take->aaf,map_append->aad,getElem?_take->ZQ,eq_nil_iff_forall_not_mem->aaJ,eq_nil_of_length_eq_zero->ZS,getElem?_toArray->aaF,mem_cons->Zp,length_append->ZM,getElem?_eq_getElem->Zl,length_eq_zero_iff->aap,getElem?_map->ZH,getElem?_set->aaG,nodup_append->aaj,map_cons->aac,map_toArray->aal,take_append_drop->aaK,mem_of_getElem?->Zk,map_nil->aae,getElem?_cons_succ->aaU,length_map->ZU,nil_append->aab,getElem?_of_mem->Zx,filter_eq_self->aaN,mem_map->Z9,any_eq_true->ZG,map_drop->aax,map_take->aat,range->Zm
open Array renaming replicate->Zv,getD_eq_getD_getElem?->aaI,getElem?_setIfInBounds_ne->aaQ,setIfInBounds_comm->aaT,toArray_toList->ZY,length_toList->aaR
namespace Go.AM
open Go.RowKit
variable{E E':Go.AM.Env}{w:World}{b l sz n e i j k N nx q nx' s id:Nat}{h:Int}{t ty:TypeId}{els zd ys:Go.AM.Lad}{g m gy:Bool}{el:List Go.AM.D}{cs:List Go.AM.C}{a:Act}{f:FuncId}{nob ob':Go.AM.Laa}{out out':Go.AM.T}{st:Go.AM.St}{sl sl':Go.AM.Lab}{u:Value}{P:Program}{y x:Go.AM.Ob}{R p G R1:Prop}{α:Type}
section
variable{P:Program}{d:Option Tmp}{ty:TypeId}{ps:String}{af:Array Edge}{gd:Option (Nat×Bool)}{x y z:Operand}
theorem Ey{o h c:Nat}(hr:E.r o=ς (b,c))(h1:l<=h)(h2:h<=n)(hlc:n<=c):cvC E w (.s o sz l (h-l)) (sliced (ς ⟨b,0,ξ⟩) l h c sz):=by
 refine⟨_,_,b,c,hr,rfl,by omega,by omega,?_⟩
 by_cases hlh:c=l
 .left;omega
 right
 rw[if_neg oaa]
 simp[Addr.add]
 omega
theorem Kf{t by_:Nat}{g2:Bool}{o:Nat}{rt:TypeId}{hi:Operand}[ht:da P t e sz by_](hn:els.length=n)(h0:0<=h)(h2:h<=n):
 AWN P ⟨d,.slice t x ξ (ς hi) ξ,ty,ps,af,gd⟩ [(x,.v (.c (.w o n))),(hi,.v (.c (.d g2 (.i .i64 h))))] [(o,.row rt sz els g m)] (.v (.c (.s o sz 0 h.toNat))) []:=
 cf λE ac w hne hob=>by
  have k1:=hne x _ (.head _)
  have k3:=fZ (hne hi _ (.tail _ (.head _)))
  obtain⟨b,c,hr,hu⟩:=k1
  obtain⟨b',c',arr,hr',_,_,hlc,_⟩:=hob o _ (.head _)
  rw[hr] at hr';cases hr'
  obtain⟨i,z,hi1,hi2,_⟩:=ht.i
  obtain⟨he,hu'⟩:=vH ht.u
  refine⟨sliced (ς ⟨b,0,ξ⟩) 0 h.toNat c sz,?_,Ey (w:=w) (n:=n) hr (ZA _) oaa oaa⟩
  simp[execOp,hu,k3,run_sliceAt_slice w t _ _ _ _ hu',run_slice_h w t (ς ⟨b,0,ξ⟩) n c hu' .i64 h h0 oaa,he,d7 hi1,hi2]
theorem Kg{t by_:Nat}{g2:Bool}{o:Nat}{rt:TypeId}{l:Int}{lo:Operand}[ht:da P t e sz by_](hn:els.length=n)(h0:0<=l)(h2:l<=n):
 AWN P ⟨d,.slice t x (ς lo) ξ ξ,ty,ps,af,gd⟩ [(x,.v (.c (.w o n))),(lo,.v (.c (.d g2 (.i .i64 l))))] [(o,.row rt sz els g m)] (.v (.c (.s o sz l.toNat (n-l.toNat)))) []:=
 cf λE ac w hne hob=>by
  have k1:=hne x _ (.head _)
  have k3:=fZ (hne lo _ (.tail _ (.head _)))
  obtain⟨b,c,hr,hu⟩:=k1
  obtain⟨b',c',arr,hr',_,_,hlc,_⟩:=hob o _ (.head _)
  rw[hr] at hr';cases hr'
  obtain⟨i,z,hi1,hi2,_⟩:=ht.i
  obtain⟨he,hu'⟩:=vH ht.u
  refine⟨sliced (ς ⟨b,0,ξ⟩) l.toNat n c sz,?_,Ey (w:=w) (n:=n) hr oaa (Zu _) oaa⟩
  simp[execOp,hu,k3,run_sliceAt_slice w t _ _ _ _ hu',run_slice_l w t (ς ⟨b,0,ξ⟩) n c hu' .i64 l h0 oaa,he,d7 hi1,hi2]
theorem Kb{by_:Nat}{kd:IntKind}{o:Nat}{i:Int}[ht:da P t e sz by_](h0:0<=i)(h1:i<n):
 AWN P ⟨d,.indexAddr t x y,ty,ps,af,gd⟩ [(x,.v (.c (.wn o n))),(y,.v (.c (.d g (.i kd i))))] [] (.v (.c (.e o sz i.toNat 0))) []:=by
 intro cx E a w ok hn hb hf
 have h2:cvT E w (.v (.c (.w o n))) (a.eval x):=by
  rcases hn x _ (.head _) with⟨_,h,_⟩|⟨_,h⟩
  .omega
  exact h
 exact zK (P:=P) (d:=d) (ty:=ty) (ps:=ps) (af:=af) (gd:=gd) (g:=g) (kd:=kd) (t:=t) h0 h1 cx E a w ok (λz u hm=>by
  grind) (λ_ _ h=>by cases h) hf
theorem Ai{o:Nat}{rt:TypeId}(he:els[i]?=ς el)(h:cg E w o (.rown rt sz els g)):cg E w o (.row rt sz els g ζ):=by
 rcases h with⟨_,h⟩|⟨_,b,c,arr,k1,k2,k3,k4,k5,k6,k7,k8⟩
 .simp_all
 exact⟨b,c,arr,k1,k2,k3,k4,k5,k6,k7,λ_=>k8.1,(λh=>by cases h),θ⟩
theorem On{o:Nat}{rt:TypeId}{c:C}[ht:g8 P t](he:els[i]?=ς el)(hc:ld1 g j el=ς c):
 AWN P ⟨d,.load t x,ty,ps,af,gd⟩ [(x,.v (.c (.e o sz i j)))] [(o,.rown rt sz els g)] (.v (.c c)) []:=by
 intro cx E a w ok hn hb hf
 exact D5 (P:=P) (m:=ζ) he hc cx E a w ok hn (λl x h=>by simp at h;obtain⟨rfl,rfl⟩:=h;exact Ai he (hb _ _ (.head _))) hf
theorem Df{o:Nat}{rt:TypeId}[ht:fm P t n](he:els[i]?=ς el)(hj:B4 g j n el=ς cs):
 AWN P ⟨d,.load t x,ty,ps,af,gd⟩ [(x,.v (.c (.e o sz i j)))] [(o,.rown rt sz els g)] (.v (.agg cs)) []:=by
 intro cx E a w ok hn hb hf
 exact wH (P:=P) (m:=ζ) he hj cx E a w ok hn (λl x h=>by simp at h;obtain⟨rfl,rfl⟩:=h;exact Ai he (hb _ _ (.head _))) hf
theorem UU{args:Array Operand}{tys:Array TypeId}(h:a.eval x= .func (.func f) #[] #[]):
 execOp a.eval ⟨d,.call ⟨.value x,args,tys⟩,ty,ps,af,gd⟩=execOp a.eval ⟨d,.call ⟨.value (.func f),args,tys⟩,ty,ps,af,gd⟩:=by
 have e:a.eval (.func f)= .func (.func f) #[] #[]:=rfl
 simp only[execOp,resolve,h,e]
theorem Xj{args:Array Operand}{tys:Array TypeId}{needs:List (Operand×T)}{nw:Laa}(h:AWN P ⟨d,.call ⟨.value (.func f),args,tys⟩,ty,ps,af,gd⟩ needs nob out nw):
 AWN P ⟨d,.call ⟨.value x,args,tys⟩,ty,ps,af,gd⟩ ((x,.v (.c (.fn f)))::needs) nob out nw:=by
 intro cx E a w ok hn hb hf
 have:=h cx E a w ok (λy t hm=>hn y t (.tail _ hm)) hb hf
 have e:a.eval x= .func (.func f) #[] #[]:=hn x _ (.head _)
 unfold Oper.wp at this ⊢
 rw[UU e]
 exact this
end
section
variable{P:Program}{N:Nat}{d:Tmp}{ty:TypeId}{ps:String}{af:Array Edge}{gd:Option (Nat×Bool)}{x y z:Operand}{sl:Lab}{ob:Laa}{nx:Nat}{α:Type}{enc:α->List D}
theorem ns_fn{args:Array Operand}{tys:Array TypeId}{st':St}{i:Inf}(hx:opT st.sl x= .v (.c (.fn f)))(h:NS P N ⟨ς d,.call ⟨.value (.func f),args,tys⟩,ty,ps,af,gd⟩ st st' i):
 NS P N ⟨ς d,.call ⟨.value x,args,tys⟩,ty,ps,af,gd⟩ st st' {i with needs:=(x,.v (.c (.fn f)))::i.needs}:=by
 obtain⟨h1,h2,h3,h4,h5,h6,h7⟩:=h
 exact⟨Xj h1,h2,h3,⟨hx,h4⟩,h5,h6,h7⟩
theorem Xo{t by_:Nat}{g2:Bool}{o:Nat}{ys:List α}{rt:TypeId}{hi:Operand}[ht:da P t e sz by_](H:fH ys 0 h=ζ)(hn:ys.length=n)(hx:opT sl x= .v (.c (.w o n)))(ho:go ob o=ς (.row rt sz (ys.map enc) g m))(hh:opT sl hi= .v (.c (.d g2 (.i .i64 h))))(hN:nlt d N=ζ):
 NS0 P N ⟨ς d,.slice t x ξ (ς hi) ξ,ty,ps,af,gd⟩ sl ob nx d (.v (.c (.s o sz 0 h.toNat))) ⟨d,[(x,.v (.c (.w o n))),(hi,.v (.c (.d g2 (.i .i64 h))))],[(o,.row rt sz (ys.map enc) g m)],.v (.c (.s o sz 0 h.toNat)),[]⟩:=by
 simp only[fH,decide_eq_true_eq] at H
 exact c9 (st:=⟨sl,ob,nx⟩) (Kf (by simp_all) H.2.1 oaa) rfl hN ⟨hx,hh,θ⟩ ⟨ho,θ⟩ rfl
theorem Xp{t by_:Nat}{g2:Bool}{o:Nat}{ys:List α}{rt:TypeId}{l:Int}{lo:Operand}[ht:da P t e sz by_](H:fH ys l ys.length=ζ)(hn:ys.length=n)(hx:opT sl x= .v (.c (.w o n)))(ho:go ob o=ς (.row rt sz (ys.map enc) g m))(hl:opT sl lo= .v (.c (.d g2 (.i .i64 l))))(hN:nlt d N=ζ):
 NS0 P N ⟨ς d,.slice t x (ς lo) ξ ξ,ty,ps,af,gd⟩ sl ob nx d (.v (.c (.s o sz l.toNat (n-l.toNat)))) ⟨d,[(x,.v (.c (.w o n))),(lo,.v (.c (.d g2 (.i .i64 l))))],[(o,.row rt sz (ys.map enc) g m)],.v (.c (.s o sz l.toNat (n-l.toNat))),[]⟩:=by
 simp only[fH,decide_eq_true_eq] at H
 exact c9 (st:=⟨sl,ob,nx⟩) (Kg (by simp_all) H.1 oaa) rfl hN ⟨hx,hl,θ⟩ ⟨ho,θ⟩ rfl
theorem M9{o:Nat}{ys:List α}(H:fH ys 0 h=ζ)(ho:go ob o=ς (.row t sz (ys.map enc) g m)):Src ob (.s o sz 0 h.toNat) ((ys.take h.toNat).map enc) g:=by
 simp only[fH,decide_eq_true_eq] at H
 have:=Src.s (off:=0) (len:=h.toNat) ho (by simp;omega)
 simp_all
theorem I6{o:Nat}{ys:List α}{l:Int}(H:fH ys l ys.length=ζ)(hn:ys.length=n)(ho:go ob o=ς (.row t sz (ys.map enc) g m)):Src ob (.s o sz l.toNat (n-l.toNat)) ((ys.drop l.toNat).map enc) g:=by
 simp only[fH,decide_eq_true_eq] at H
 subst hn
 have:=Src.s (off:=l.toNat) (len:=ys.length-l.toNat) ho (by simp;omega)
 rwa [<-aax,List.take_of_length_le (by simp)] at this
theorem AD{by_:Nat}{kd:IntKind}{o:Nat}{i:Int}{ys:List α}{a:α}[da P t e sz by_](H:ix ys i=ς a)(hx:opT sl x= .v (.c (.wn o n)):=by exact rfl)(hy:opT sl y= .v (.c (.d g (.i kd i))):=by exact rfl)(hn:ys.length=n:=by first|rfl|simp)(hN:nlt d N=true:=by exact rfl):
 NS0 P N ⟨ς d,.indexAddr t x y,ty,ps,af,gd⟩ sl ob nx d (.v (.c (.e o sz i.toNat 0))) ⟨d,[(x,.v (.c (.wn o n))),(y,.v (.c (.d g (.i kd i))))],[],.v (.c (.e o sz i.toNat 0)),[]⟩:=
 c9 (st:=⟨sl,ob,nx⟩) (Kb (ixE H).1 (by have:=HS H;omega)) rfl hN ⟨hx,hy,θ⟩ trivial rfl
theorem oen{o:Nat}{rt:TypeId}{c:C}[g8 P t](hx:opT sl x= .v (.c (.e o sz i j)):=by exact rfl)(ho:go ob o=ς (.rown rt sz els g):=by exact rfl)(hN:nlt d N=true:=by exact rfl)(he:els[i]?=ς el)(hc:ld1 g j el=ς c:=by exact rfl):
 NS0 P N ⟨ς d,.load t x,ty,ps,af,gd⟩ sl ob nx d (.v (.c c)) ⟨d,[(x,.v (.c (.e o sz i j)))],[(o,.rown rt sz els g)],.v (.c c),[]⟩:=c9 (st:=⟨sl,ob,nx⟩) (On he hc) rfl hN ⟨hx,θ⟩ ⟨ho,θ⟩ rfl
theorem oean{o:Nat}{rt:TypeId}[fm P t n](hx:opT sl x= .v (.c (.e o sz i j)):=by exact rfl)(ho:go ob o=ς (.rown rt sz els g):=by exact rfl)(hN:nlt d N=true:=by exact rfl)(he:els[i]?=ς el)(hc:B4 g j n el=ς cs:=by exact rfl):
 NS0 P N ⟨ς d,.load t x,ty,ps,af,gd⟩ sl ob nx d (.v (.agg cs)) ⟨d,[(x,.v (.c (.e o sz i j)))],[(o,.rown rt sz els g)],.v (.agg cs),[]⟩:=c9 (st:=⟨sl,ob,nx⟩) (Df he hc) rfl hN ⟨hx,θ⟩ ⟨ho,θ⟩ rfl
theorem HT{ys:List α}{i:Int}{a:α}(H:ix ys i=ς a):ys.map enc≠[]:=by
 intro h
 have:=HS H
 have h0:=(ixE H).1
 rw[List.map_eq_nil_iff] at h
 grind
end
theorem wnn{o n':Nat}(h:gt sl k= .v (.c (.wn o n)))(hn:n=n'):gt sl k= .v (.c (.wn o n')):=hn▸h
def QQ(o:Nat)(x:D)(g:Bool)(k:Nat):C->Option (C×Lac)
 | .wn l n=>match d0 l o with
  |true=>ς (.d g x,[(k,n)])
  |false=>ς (.wn l n,[])
 |c=>ς (c,[])
def DT(o:Nat)(x:D)(g:Bool)(k:Nat):List C->Option (List C×Lac)
 |[]=>ς ([],[])
 |c::cs=>match QQ o x g k c,DT o x g k cs with
  |some (x,e),ς (xs,es)=>ς (x::xs,e++es)
  |_,_=>ξ
def QS(o:Nat)(x:D)(g:Bool)(k:Nat):V->Option (V×Lac)
 | .c c=>match QQ o x g k c with
  |some (x,e)=>ς (.c x,e)
  |none=>ξ
 | .agg cs=>match DT o x g k cs with
  |some (x,e)=>ς (.agg x,e)
  |none=>ξ
def Hx(o:Nat)(x:D)(g:Bool)(k:Nat):List V->Option (List V×Lac)
 |[]=>ς ([],[])
 |c::cs=>match QS o x g k c,Hx o x g k cs with
  |some (x,e),ς (xs,es)=>ς (x::xs,e++es)
  |_,_=>ξ
def QR(o:Nat)(x:D)(g:Bool)(k:Nat):T->Option (T×Lac)
 | .v v=>match QS o x g k v with
  |some (x,e)=>ς (.v x,e)
  |none=>ξ
 | .tup vs=>match Hx o x g k vs with
  |some (x,e)=>ς (.tup x,e)
  |none=>ξ
 | .any=>ς (.any,[])
def NU(o:Nat)(x:D)(g:Bool)(k:Nat):Lab->Option (Lab×Lac)
 |[]=>ς ([],[])
 |(j,t)::r=>match QR o x g k t,NU o x g k r with
  |some (x,e),ς (xs,es)=>ς ((j,x)::xs,e++es)
  |_,_=>ξ
def uD(o:Nat)(x:D)(g:Bool)(k:Nat):Laa->Option (Laa×Lac)
 |[]=>ς ([],[])
 |(j,.var t cs)::r=>match d0 j o with
  |true=>ξ
  |false=>match DT o x g k cs,uD o x g k r with
   |some (x,e),ς (xs,es)=>ς ((j,.var t x)::xs,e++es)
   |_,_=>ξ
 |(j,.row t sz els gg m)::r=>match uD o x g k r with
  |some (xs,es)=>match d0 j o with
   |true=>ς (xs,es)
   |false=>ς ((j,.row t sz els gg m)::xs,es)
  |none=>ξ
 |(j,.rown t sz els gg)::r=>match uD o x g k r with
  |some (xs,es)=>match d0 j o with
   |true=>ς (xs,es)
   |false=>ς ((j,.rown t sz els gg)::xs,es)
  |none=>ξ
 |(j,.abs i y)::r=>match uD o x g k r with
  |some (xs,es)=>match d0 j o with
   |true=>ς (xs,es)
   |false=>ς ((j,.abs i y)::xs,es)
  |none=>ξ
section
variable{E E':Env}{w:World}{o k:Nat}{x:D}{g:Bool}(hd:∀u,cvC E w (.wn o k) u->cvC E' w (.d g x) u)(hk:gb E w E' w)
include hd hk
theorem LX{c c':C}{e:Lac}(h:QQ o x g k c=ς (c',e))(he:Eqs e)(hc:cvC E w c u):cvC E' w c' u:=by
 cases c with
 |wn l n=>
  simp only[QQ] at h
  split at h
  .rename_i hb
   have:=Zo hb
   subst this
   simp at h;obtain⟨rfl,rfl⟩:=h
   have hn:k=n:=he.1
   simp_all
  simp at h;obtain⟨rfl,rfl⟩:=h;exact sY hk hc
 |_=>simp only[QQ,Option.some.injEq,Prod.mk.injEq] at h;obtain⟨rfl,rfl⟩:=h;exact sY hk hc
theorem BL:∀{cs cs':List C} {e:Lac} {us:Lae},DT o x g k cs=ς (cs',e)->Eqs e->CV E w cs us->CV E' w cs' us
 |[],cs',e,us,h,_,hc=>by
  simp[DT] at h;obtain⟨rfl,rfl⟩:=h
  cases us with
  |nil=>trivial
  |cons _ _=>exact hc.elim
 |c::cs,cs',e,us,h,he,hc=>by
  cases us with
  |nil=>exact hc.elim
  |cons u us=>
   simp only[DT] at h
   split at h
   .rename_i h1 h2
    simp at h;obtain⟨rfl,rfl⟩:=h
    obtain⟨k1,k2⟩:=dq he
    exact⟨LX hd hk h1 k1 hc.1,BL h2 k2 hc.2⟩
   cases h
theorem LY{v v':V}{e:Lac}(h:QS o x g k v=ς (v',e))(he:Eqs e)(hv:cvV E w v u):cvV E' w v' u:=by
 cases v with
 |c c=>
  simp only[QS] at h
  split at h
  .rename_i h1;simp at h;obtain⟨rfl,rfl⟩:=h;exact LX hd hk h1 he hv
  cases h
 |agg cs=>
  simp only[QS] at h
  split at h
  .rename_i h1;simp at h;obtain⟨rfl,rfl⟩:=h;obtain⟨arr,hu,hc⟩:=hv;exact⟨arr,hu,BL hd hk h1 he hc⟩
  cases h
theorem Hy:∀{cs cs':List V} {e:Lac} {us:Lae},Hx o x g k cs=ς (cs',e)->Eqs e->VV E w cs us->VV E' w cs' us
 |[],cs',e,us,h,_,hc=>by
  simp[Hx] at h;obtain⟨rfl,rfl⟩:=h
  cases us with
  |nil=>trivial
  |cons _ _=>exact hc.elim
 |c::cs,cs',e,us,h,he,hc=>by
  cases us with
  |nil=>exact hc.elim
  |cons u us=>
   simp only[Hx] at h
   split at h
   .rename_i h1 h2
    simp at h;obtain⟨rfl,rfl⟩:=h
    obtain⟨k1,k2⟩:=dq he
    exact⟨LY hd hk h1 k1 hc.1,Hy h2 k2 hc.2⟩
   cases h
theorem UZ{v v':T}{e:Lac}(h:QR o x g k v=ς (v',e))(he:Eqs e)(hv:cvT E w v u):cvT E' w v' u:=by
 cases v with
 |v v=>
  simp only[QR] at h
  split at h
  .rename_i h1;simp at h;obtain⟨rfl,rfl⟩:=h;exact LY hd hk h1 he hv
  cases h
 |tup vs=>
  simp only[QR] at h
  split at h
  .rename_i h1;simp at h;obtain⟨rfl,rfl⟩:=h;obtain⟨arr,hu,hc⟩:=hv;exact⟨arr,hu,Hy hd hk h1 he hc⟩
  cases h
 |any=>simp[QR] at h;obtain⟨rfl,rfl⟩:=h;trivial
theorem Fl{j:Nat}{u:Value}:∀{sl sl':Lab} {e:Lac},NU o x g k sl=ς (sl',e)->Eqs e->cvT E w (gt sl j) u->cvT E' w (gt sl' j) u
 |[],sl',e,h,_,_=>by simp[NU] at h;obtain⟨rfl,rfl⟩:=h;trivial
 |(i,t)::r,sl',e,h,he,hc=>by
  simp only[NU] at h
  split at h
  .rename_i h1 h2
   simp at h;obtain⟨rfl,rfl⟩:=h
   obtain⟨k1,k2⟩:=dq he
   by_cases hj:i=j
   .subst hj;rw[cG] at hc ⊢;exact UZ hd hk h1 k1 hc
   rw[b7 _ _ hj] at hc ⊢;exact Fl h2 k2 hc
  cases h
theorem o9{l:Nat}{y:Ob}(hlo:l≠o)(hF:∀b c,E.r l=ς (b,c)->¬E.F b->¬E'.F b):∀{ob ob':Laa} {e:Lac},uD o x g k ob=ς (ob',e)->Eqs e->go ob' l=ς y->(∀y,go ob l=ς y->cg E w l y)->cg E' w l y
 |[],ob',e,h,_,hy,_=>by simp[uD] at h;obtain⟨rfl,rfl⟩:=h;cases hy
 |(i,.var t cs)::r,ob',e,h,he,hy,hb=>by
  simp only[uD] at h
  split at h
  .cases h
  split at h
  .rename_i a1 a2
   simp at h;obtain⟨rfl,rfl⟩:=h
   obtain⟨k1,k2⟩:=dq he
   by_cases hi:i=l
   .subst hi
    rw[bM] at hy;cases hy
    obtain⟨b,c,arr,q1,q2,q3,q4⟩:=hb _ (bM _ _ _)
    exact⟨b,c,arr,hk.r _ _ q1,q2,BL hd hk a1 k1 q3,hF b c q1 q4⟩
   rw[a9 _ _ hi] at hy
   exact o9 hlo hF a2 k2 hy (λy hy=>hb y (by rw[a9 _ _ hi];exact hy))
  cases h
 |(i,.row t sz els gg m)::r,ob',e,h,he,hy,hb=>by
  simp only[uD] at h
  split at h
  .rename_i a2
   split at h
   .rename_i hb2
    simp at h;obtain⟨rfl,rfl⟩:=h
    have hio:=Zo hb2
    exact o9 hlo hF a2 he hy (λy hy=>hb y (by rw[a9 _ _ (λe=>hlo (e.symm.trans hio))];exact hy))
   simp at h;obtain⟨rfl,rfl⟩:=h
   by_cases hi:i=l
   .subst hi
    rw[bM] at hy;cases hy
    exact fy hk (λ_ _ _=>rfl) (λb c hr=>hF b c hr) (hb _ (bM _ _ _))
   rw[a9 _ _ hi] at hy
   exact o9 hlo hF a2 he hy (λy hy=>hb y (by rw[a9 _ _ hi];exact hy))
  cases h
 |(i,.rown t sz els gg)::r,ob',e,h,he,hy,hb=>by
  simp only[uD] at h
  split at h
  .rename_i a2
   split at h
   .rename_i hb2
    simp at h;obtain⟨rfl,rfl⟩:=h
    have hio:=Zo hb2
    exact o9 hlo hF a2 he hy (λy hy=>hb y (by rw[a9 _ _ (λe=>hlo (e.symm.trans hio))];exact hy))
   simp at h;obtain⟨rfl,rfl⟩:=h
   by_cases hi:i=l
   .subst hi
    rw[bM] at hy;cases hy
    exact fy hk (λ_ _ _=>rfl) (λb c hr=>hF b c hr) (hb _ (bM _ _ _))
   rw[a9 _ _ hi] at hy
   exact o9 hlo hF a2 he hy (λy hy=>hb y (by rw[a9 _ _ hi];exact hy))
  cases h
 |(i,.abs _ _)::r,ob',e,h,he,hy,hb=>by
  simp only[uD] at h
  split at h
  .rename_i a2
   split at h
   .rename_i hb2
    simp at h;obtain⟨rfl,rfl⟩:=h
    have hio:=Zo hb2
    exact o9 hlo hF a2 he hy (λy hy=>hb y (by rw[a9 _ _ (λe=>hlo (e.symm.trans hio))];exact hy))
   simp at h;obtain⟨rfl,rfl⟩:=h
   by_cases hi:i=l
   .subst hi
    rw[bM] at hy;cases hy
    exact fy hk (λ_ _ _=>rfl) (λb c hr=>hF b c hr) (hb _ (bM _ _ _))
   rw[a9 _ _ hi] at hy
   exact o9 hlo hF a2 he hy (λy hy=>hb y (by rw[a9 _ _ hi];exact hy))
  cases h
end
theorem ko{o k:Nat}{x:D}{g:Bool}:∀{ob ob':Laa} {e:Lac},uD o x g k ob=ς (ob',e)->go ob' o=ξ
 |[],ob',e,h=>by simp[uD] at h;obtain⟨rfl,rfl⟩:=h;rfl
 |(i,.var t cs)::r,ob',e,h=>by
  simp only[uD] at h
  split at h
  .cases h
  rename_i hb
  split at h
  .rename_i a1 a2
   simp at h;obtain⟨rfl,rfl⟩:=h
   rw[a9 _ _ (eR hb)];exact ko a2
  cases h
 |(i,.row t sz els gg m)::r,ob',e,h=>by
  simp only[uD] at h
  split at h
  .rename_i a2
   split at h
   .simp at h;obtain⟨rfl,rfl⟩:=h;exact ko a2
   rename_i hb
   simp at h;obtain⟨rfl,rfl⟩:=h
   rw[a9 _ _ (eR hb)];exact ko a2
  cases h
 |(i,.rown t sz els gg)::r,ob',e,h=>by
  simp only[uD] at h
  split at h
  .rename_i a2
   split at h
   .simp at h;obtain⟨rfl,rfl⟩:=h;exact ko a2
   rename_i hb
   simp at h;obtain⟨rfl,rfl⟩:=h
   rw[a9 _ _ (eR hb)];exact ko a2
  cases h
 |(i,.abs _ _)::r,ob',e,h=>by
  simp only[uD] at h
  split at h
  .rename_i a2
   split at h
   .simp at h;obtain⟨rfl,rfl⟩:=h;exact ko a2
   rename_i hb
   simp at h;obtain⟨rfl,rfl⟩:=h
   rw[a9 _ _ (eR hb)];exact ko a2
  cases h
theorem ev{ty:Nat}{ob:Laa}{e1 e2:Lac}(o:Nat)(hrv:rsv o=false:=by exact rfl)(ho:go ob o=ς (.rown ty sz els g):=by exact rfl)(hs:NU o (.l els) g els.length sl=ς (sl',e1):=by exact rfl)(hb:uD o (.l els) g els.length ob=ς (ob',e2):=by exact rfl)(h1:Eqs e1:=by repeat (first|exact θ|refine⟨by first|rfl|simp,?_⟩))(h2:Eqs e2:=by repeat (first|exact θ|refine⟨by first|rfl|simp,?_⟩)):
 cB N ⟨sl,ob,nx⟩ ⟨sl',ob',nx⟩:=by
 intro cx E a w hR
 rcases hR.obs o _ ho with⟨hE,hels⟩|⟨hE,b,c,arr,hr,hh,ha,hlc,hmx,hes,hrd,hF⟩
 .have hk:gb E w E w:=⟨λ_ _ h=>h,λ_ _ h=>h,λ_ _ _=>rfl,λ_ _ h=>⟨h,rfl⟩,λ_ h=>⟨h,.refl _ _⟩,rfl⟩
  have hd:∀u,cvC E w (.wn o els.length) u->cvC E w (.d g (.l els)) u:=by
   intro u hu
   rcases hu with⟨_,_,rfl⟩|⟨hu,_⟩
   .subst hels;show rdD _ _ _ _;rw[rdD];simp_all
   simp_all
  refine⟨E,hR.ok,hR.dom,λl y hl=>?_,λj=>Fl hd hk hs h1 (hR.sl j),hR.dfr,hR.size,hR.td⟩
  by_cases e:l=o
  .subst e;rw[ko hb] at hl;cases hl
  exact o9 hd hk e (λ_ _ _ h=>h) hb h2 hl (λy hy=>hR.obs l y hy)
 obtain⟨hb1,hb2⟩:=hR.ok.rb o b c hr
 have hb3:cx.In b:=hb2.resolve_right (λh=>by simp_all)
 let E':Env:=⟨E.r,λk=>E.F k\/k=b,λk=>E.G k\/(g=ζ/\k=b),E.T,E.Z,E.n⟩
 have hH:∀(g':Bool) k,E.H g' k->E'.H g' k:=λg' k hk=>by cases g'<;>exact Or.inl hk
 have hk:gb E w E' w:=⟨λ_ _ h=>h,hH,λ_ _ _=>rfl,λ_ _ h=>⟨h,rfl⟩,λ_ h=>⟨h,.refl _ _⟩,rfl⟩
 have hd:∀u,cvC E w (.wn o els.length) u->cvC E' w (.d g (.l els)) u:=by
  intro u hu
  rcases hu with⟨hu,_⟩|⟨_,b',c',hr',rfl⟩
  .simp_all
  rw[hr] at hr';cases hr'
  show rdD _ _ _ _
  rw[rdD]
  refine⟨_,_,rfl,hlc,.inr ⟨b,0,rfl,?_,bS (λ_ _=>rfl) (hH g) rfl _ _ hrd⟩⟩
  cases g
  .exact .inr rfl
  exact .inr ⟨rfl,rfl⟩
 refine⟨E',⟨?_,?_,?_,hR.ok.rb,hR.ok.inj,hR.ok.os,hR.ok.tape,hR.ok.output,hR.ok.size,hR.ok.block,hR.ok.pin,λk hk=>hk.elim (hR.ok.ff k) (λe=>e▸hb3.nf),λk hk hk'=>hk.elim (λh=>hR.ok.gc k h hk') (λe=>e▸.mk hh),
  ⟨λl k h=>?_,hR.ok.sf.tt,λk h=>?_,hR.ok.sf.zs,hR.ok.sf.ze⟩⟩,hR.dom,λl y hl=>?_,λj=>Fl hd hk hs h1 (hR.sl j),hR.dfr,hR.size,hR.td⟩
 .rintro k (h|rfl)
  .exact hR.ok.fb k h
  exact hb1
 .rintro k (h|⟨_,rfl⟩)
  .exact .inl (hR.ok.gf k h)
  omega
 .rintro k (h|⟨_,rfl⟩)
  .exact hR.ok.gn k h
  exact hb3.ng
 .obtain⟨h1,h2,h3,h4⟩:=hR.ok.sf.tb l k h
  grind
 .obtain⟨h1,h2,h3,h4⟩:=hR.ok.sf.zc k h
  grind
 by_cases e:l=o
 .subst e;rw[ko hb] at hl;cases hl
 exact o9 hd hk e (λb' c' hr' hn hn'=>hn'.elim hn (λh=>by subst h;exact e (hR.ok.inj _ _ _ _ _ hr' hr))) hb h2 hl (λy hy=>hR.obs l y hy)
def RC.frz:RC->RC
 | .own _ _ els _=>.d (.l els)
 |r=>r
def RV.frz:RV->RV
 | .c r=>.c r.frz
 | .agg rs=>.agg (rs.map RC.frz)
def RC.full:RC->Prop
 | .own _ _ els n=>els.length=n
 |_=>True
def J2:List RC->Prop
 |[]=>True
 |r::rs=>r.full/\J2 rs
def RV.full:RV->Prop
 | .c r=>r.full
 | .agg rs=>J2 rs
def BK:List RV->Prop
 |[]=>True
 |r::rs=>r.full/\BK rs
section
variable{w:World}{G G2:Nat->Prop}{base:Nat}
theorem Sj(hG:∀b,G b->G2 b){r:RC}{bs:Lac}(h:rcR w G base r u bs)(hf:r.full)(hb:∀p∈bs,G2 p.1):
 rcR w G2 base r.frz u []/\∀p∈bs,base<=p.1/\p.1<w.heap.size/\eJ w p.1:=by
 cases r with
 |d x=>obtain⟨rfl,h⟩:=h;exact⟨⟨rfl,bP (λ_ _=>rfl) hG _ _ h⟩,by simp⟩
 |nil=>obtain⟨rfl,h⟩:=h;exact⟨⟨rfl,h⟩,by simp⟩
 |own ty sz els n=>
  obtain⟨b,c,arr,rfl,rfl,hh,h1,h2,h3,h4,h5,h6,h7⟩:=h
  have hf:els.length=n:=hf
  refine⟨⟨rfl,ς ⟨b,0,ξ⟩,c,by rw[hf],h2,.inr ⟨b,0,rfl,hb _ (.head _),bS (λ_ _=>rfl) hG rfl _ _ h5⟩⟩,λp hp=>?_⟩
  obtain rfl:=List.mem_singleton.1 hp
  exact⟨h7,U3 hh,.mk hh⟩
theorem MM(hG:∀b,G b->G2 b):∀{rs:List RC} {us:Lae} {bs:Lac},Ci w G base rs us bs->J2 rs->(∀p∈bs,G2 p.1)->
 Ci w G2 base (rs.map RC.frz) us []/\∀p∈bs,base<=p.1/\p.1<w.heap.size/\eJ w p.1
 |[],[],bs,h,_,_=>by have h:bs=[]:=h;subst h;exact⟨rfl,by simp⟩
 |r::rs,u::us,bs,⟨b1,b2,e,h1,h2⟩,hf,hb=>by
  subst e
  obtain⟨k1,k2⟩:=Sj hG h1 hf.1 (λp hp=>hb p (by simp[hp]))
  obtain⟨k3,k4⟩:=MM hG h2 hf.2 (λp hp=>hb p (by simp[hp]))
  exact⟨⟨[],[],rfl,k1,k3⟩,λp hp=>(Zn.1 hp).elim (k2 p) (k4 p)⟩
 |[],_::_,_,h,_,_=>h.elim
 |_::_,[],_,h,_,_=>h.elim
theorem SA(hG:∀b,G b->G2 b){r:RV}{bs:Lac}(h:rvR w G base r u bs)(hf:r.full)(hb:∀p∈bs,G2 p.1):
 rvR w G2 base r.frz u []/\∀p∈bs,base<=p.1/\p.1<w.heap.size/\eJ w p.1:=by
 cases r with
 |c r=>exact Sj hG h hf hb
 |agg rs=>
  obtain⟨arr,rfl,h⟩:=h
  obtain⟨k1,k2⟩:=MM hG h hf hb
  exact⟨⟨arr,rfl,k1⟩,k2⟩
theorem F9(hG:∀b,G b->G2 b):∀{rs:List RV} {us:Lae} {bs:Lac},zY w G base rs us bs->BK rs->(∀p∈bs,G2 p.1)->
 zY w G2 base (rs.map RV.frz) us []/\∀p∈bs,base<=p.1/\p.1<w.heap.size/\eJ w p.1
 |[],[],bs,h,_,_=>by have h:bs=[]:=h;subst h;exact⟨rfl,by simp⟩
 |r::rs,u::us,bs,⟨b1,b2,e,h1,h2⟩,hf,hb=>by
  subst e
  obtain⟨k1,k2⟩:=SA hG h1 hf.1 (λp hp=>hb p (by simp[hp]))
  obtain⟨k3,k4⟩:=F9 hG h2 hf.2 (λp hp=>hb p (by simp[hp]))
  exact⟨⟨[],[],rfl,k1,k3⟩,λp hp=>(Zn.1 hp).elim (k2 p) (k4 p)⟩
 |[],_::_,_,h,_,_=>h.elim
 |_::_,[],_,h,_,_=>h.elim
theorem VF(hG:∀b,G b->G2 b){rs:List RV}{bs:Lac}(h:wv w G base rs u bs)(hf:BK rs)(hb:∀p∈bs,G2 p.1):
 wv w G2 base (rs.map RV.frz) u []/\∀p∈bs,base<=p.1/\p.1<w.heap.size/\eJ w p.1:=by
 cases rs with
 |nil=>obtain⟨arr,hu,h⟩:=h;obtain⟨k1,k2⟩:=F9 hG h hf hb;exact⟨⟨arr,hu,k1⟩,k2⟩
 |cons r rs=>
  cases rs with
  |nil=>exact SA hG h hf.1 hb
  |cons r2 rs=>obtain⟨arr,hu,h⟩:=h;obtain⟨k1,k2⟩:=F9 hG h hf hb;exact⟨⟨arr,hu,k1⟩,k2⟩
end
theorem Fn.frzs{args:List AV}{res:List RV}(h:Fn P f args res)(hf:BK res):Fn P f args (res.map RV.frz):=by
 refine⟨h.enters,λF w vals hF ht hA=>(h.calls F w vals hF ht hA).mono ?_⟩
 rintro e w' ⟨v,G,bs,he,hp,hG,hr,_⟩
 obtain⟨k1,k2⟩:=VF (G2:=λb=>G b\/∃p∈bs,p.1=b) (λb h=>.inl h) hr hf (λp hp=>.inr ⟨p,hp,rfl⟩)
 grind
theorem Uy{o:Oper}{needs:List (Operand×T)}(hn:els.length=n)(h:AWK P o needs nob (.v (.c (.w q n))) [(q,.row e sz els g ζ)] [] (ς k)):AWK P o needs nob (.v (.c (.d g (.l els)))) [(q,.row e sz els g η)] [] (ς k):=by
 intro cx E a w ok hne hnob hfr
 obtain⟨hq1,hq2⟩:=hfr q _ (.head _)
 refine Oper.wp_mono ?_ (h cx E a w ok hne hnob (λl x hm=>by simp_all))
 rintro a' w' ⟨v,E',k1,ok',k3,⟨b,c,hr,hv⟩,k5,k6,k7⟩
 obtain⟨b',c',arr,hr',hh,ha,hlc,hmx,hes,hrd,hFm,_⟩:=k5 q _ (.head _)
 rw[hr] at hr';cases hr'
 have hF:=hFm rfl
 obtain⟨hb1,hb2⟩:=ok'.rb q b c hr
 have hb3:cx.In b:=by
  rcases hb2 with h|h
  .exact h
  simp_all
 let E2:Env:=⟨E'.r,λj=>E'.F j\/j=b,λj=>E'.G j\/(g=ζ/\j=b),E'.T,E'.Z,E'.n⟩
 have hH:∀(g':Bool) j,E'.H g' j->E2.H g' j:=λg' j hj=>by cases g'<;>exact Or.inl hj
 have hold:∀l c',k≠l->E.r l≠ς (b,c'):=λl c' hkl hl=>by
  have h1:=k3.r l _ (by simp_all) hl
  have:=ok'.inj _ _ _ _ _ h1 hr
  simp_all
 refine⟨v,E2,k1,⟨?_,?_,?_,ok'.rb,ok'.inj,ok'.os,ok'.tape,ok'.output,ok'.size,ok'.block,ok'.pin,λj hj=>hj.elim (ok'.ff j) (λe=>e▸hb3.nf),λj hj hj'=>hj.elim (λh=>ok'.gc j h hj') (λe=>e▸.mk hh),
  ⟨λl j h=>?_,ok'.sf.tt,λj h=>?_,ok'.sf.zs,ok'.sf.ze⟩⟩,⟨k3.r,λj hj=>.inl (k3.F j hj),λj hj=>.inl (k3.G j hj),?_,k3.heap,k3.own,k3.ownk,k3.T,k3.T',k3.Z,k3.n⟩,?_,λl x hm=>?_,(λ_ _ h=>by cases h),λl x hl=>?_⟩
 .rintro j (h|rfl)
  .exact ok'.fb j h
  exact hb1
 .rintro j (h|⟨_,rfl⟩)
  .exact .inl (ok'.gf j h)
  omega
 .rintro j (h|⟨_,rfl⟩)
  .exact ok'.gn j h
  exact hb3.ng
 .obtain⟨h1,h2,h3,h4⟩:=ok'.sf.tb l j h
  grind
 .obtain⟨h1,h2,h3,h4⟩:=ok'.sf.zc j h
  grind
 .rintro j (h|rfl)
  .exact k3.F' j h
  simp_all
 .refine⟨ς ⟨b,0,ξ⟩,c,by rw[hv,hn],hlc,.inr ⟨b,0,rfl,?_,bS (λ_ _=>rfl) (hH g) rfl _ _ hrd⟩⟩
  cases g
  .exact .inr rfl
  exact .inr ⟨rfl,rfl⟩
 .simp at hm;obtain⟨rfl,rfl⟩:=hm
  exact⟨b,c,arr,hr,hh,ha,hlc,hmx,hes,bS (λ_ _=>rfl) (hH g) rfl _ _ hrd,(λh=>by cases h),λ_=>⟨.inr rfl,λhg=>.inr ⟨by injection hg,rfl⟩⟩,θ⟩
 grind
section
variable{P:Program}{N:Nat}{d:Tmp}{ty:TypeId}{ps:String}{af:Array Edge}{gd:Option (Nat×Bool)}{x y:Operand}{sl:Lab}{ob:Laa}{nx:Nat}{α:Type}{enc:α->List D}
theorem Dx{by_ o:Nat}{ys zs:List α}{c:C}(ls:List Nat)[da P t e sz by_](H:cW by_ (ys++zs).length=ζ)(hzd:zs.map enc=zd:=by exact rfl)(henc:∀a,(enc a).length=sz:=by exact λ_=>rfl)(hfl:∀a,qd (enc a)=true:=by exact λ_=>rfl)(hp:oi ob ls=ς nob:=by exact rfl)(hd:nlt d N=true:=by exact rfl)(hx:opT sl x= .v (.c (.w o n)):=by exact rfl)(hy:opT sl y= .v (.c c):=by exact rfl)(hn:ys.length=n:=by first|rfl|simp)(hs:Src nob c zd gy:=by first|exact .d|exact .nil|exact .w rfl (by first|rfl|exact lm _|simp)|exact .wn rfl (by first|rfl|exact lm _|simp))(ho:go nob o=ς (.row e sz (ys.map enc) g ζ):=by exact rfl)(hrv:rsv o=false:=by exact rfl)(hnx:nxt nx=ς nx':=by exact rfl):
 NX P N ⟨ς d,.call ⟨.builtin .append,#[x,y],#[t,t]⟩,ty,ps,af,gd⟩ ⟨sl,ob,nx⟩ ⟨(d,.v (.c (.d ζ (.l ((ys++zs).map enc)))))::sl,(nx,.row e sz ((ys++zs).map enc) ζ η)::ob,nx'⟩
  ⟨⟨d,[(x,.v (.c (.w o n))),(y,.v (.c c))],nob,.v (.c (.d ζ (.l ((ys++zs).map enc)))),[(nx,.row e sz ((ys++zs).map enc) ζ η)]⟩,[],ς o⟩:=by
 obtain⟨h1,h2,h3,h4,h5,h6⟩:=E5 (P:=P) (N:=N) (t:=t) (x:=x) (y:=y) (enc:=enc) (d:=d) (ty:=ty) (ps:=ps) (af:=af) (gd:=gd) (sl:=sl) (ob:=ob) (nx:=nx) ls H hzd henc hfl hp hd hx hy hn hs ho hrv hnx
 exact⟨Uy (by simp) h1,.inl ⟨rfl,bO hd⟩,h3,h4,ly hnx,rfl⟩
end
theorem Ph{ob:Laa}{cs':List C}(hk:gt sl k= .v (.agg cs):=by exact rfl)(hj:AC j (.d ζ (.l [])) cs=ς cs':=by exact rfl):cB N ⟨sl,ob,nx⟩ ⟨(k,.v (.agg cs'))::sl,ob,nx⟩:=by
 intro cx E a w hR
 refine⟨E,hR.ok,hR.dom,hR.obs,λi=>?_,hR.dfr,hR.size,hR.td⟩
 by_cases e:k=i
 .subst e
  rw[cG]
  have h1:=hR.sl k
  rw[hk] at h1
  obtain⟨arr,hu,h1⟩:=h1
  exact⟨arr,hu,yP (x:=.d ζ (.l [])) ⟨ξ,0,rfl,Zu _,.inl rfl⟩ hj h1 h1⟩
 rw[b7 _ _ e];exact hR.sl i
theorem eF{o:Nat}{ob:Laa}{vt:TypeId}{cs':List C}(ho:go ob o=ς (.var vt cs):=by exact rfl)(hj:AC j (.d ζ (.l [])) cs=ς cs':=by exact rfl):cB N ⟨sl,ob,nx⟩ ⟨sl,(o,.var vt cs')::ob,nx⟩:=by
 intro cx E a w hR
 refine⟨E,hR.ok,hR.dom,λl x hl=>?_,hR.sl,hR.dfr,hR.size,hR.td⟩
 by_cases e:o=l
 .subst e
  rw[bM] at hl;cases hl
  obtain⟨b,c,arr,h1,h2,h3,h4⟩:=hR.obs o _ ho
  exact⟨b,c,arr,h1,h2,yP (x:=.d ζ (.l [])) ⟨ξ,0,rfl,Zu _,.inl rfl⟩ hj h3 h3,h4⟩
 rw[a9 _ _ e] at hl;exact hR.obs l x hl
section
variable{P:Program}{N:Nat}{ops:Array Oper}{p:Nat}{o:Oper}{l:List (Nat×Oper)}{dn seg:List Nat}{ys:List Inx}{base:St}{K:St->Prop}
theorem oY{ds:List Nat}{ob:Laa}{st0 st1 st2:St}(hs:vf ops dn seg ys=ζ)(hkl:kls ys=ds)(hA:B1 ds sl ob=ς (sl',ob'))(hb:Bn ops (seg++dn) p=ζ)(hw:cB N ⟨sl',ob',nx⟩ st0)(h:BO P N ops o st0 st1)(hw2:cB N st1 st2){dn':List Nat}(hlo:p::(seg++dn)=dn')(h':DZ P N ops l dn' [] [] st2 st2 K):DZ P N ops ((p,o)::l) dn seg ys base ⟨sl,ob,nx⟩ K:=by
 subst hlo
 exact .inr ⟨hs,hb,_,st0,st1,st2,Br hkl hA,hw,h,hw2,h'⟩
end
structure KG(q l:Nat)(E:Env)(w:World)(E':Env)(w':World):Prop where
 r:∀o x,o≠q->E.r o=ς x->E'.r o=ς x
 H:∀(g:Bool) b,E.H g b->E'.H g b
 heap:∀(g:Bool) b,E.H g b->w'.heap[b]?=w.heap[b]?
 T:∀k b,k≠l->E.T k b->E'.T k b/\w'.heap[b]?=w.heap[b]?
 Z:∀b,E.Z b->E'.Z b/\oH w w' b
 n:∀o,o≠q->(E'.n o↔E.n o)
section
variable{q l:Nat}{E E':Env}{w w':World}
theorem KG.HH(x:KG q l E w E' w'):∀{g:Gr},g.hasR l=η->∀b,E.H g b->E'.H g b
 | .b g,_,b,h=>x.H g b h
 | .s k,hl,b,h| .t k,hl,b,h=>(x.T k b (eR hl) h).1
theorem KG.hp(x:KG q l E w E' w'):∀{g:Gr},g.hasR l=η->∀b,E.H g b->w'.heap[b]?=w.heap[b]?
 | .b g,_,b,h=>x.heap g b h
 | .s k,hl,b,h| .t k,hl,b,h=>(x.T k b (eR hl) h).2
theorem MS(x:KG q l E w E' w')(hb:w'.heap[b]?=w.heap[b]?):∀{g:Gr},g.hasR l=η->qR E w els b g->qR E' w' els b g
 | .b _,_,_=>trivial
 | .s n,hl,h| .t n,hl,h=>h.keep hb (λk hk=>(x.T n k (eR hl) hk).2) λk hk=>(x.T n k (eR hl) hk).1
theorem gD_kg(x:KG q l E w E' w'):∀{g:Gr} {d:D} {u:Value},g.hasR l=η->gD E w g d u->gD E' w' g d u
 | .b g,d,u,hl,h=>bP (x.hp (g:=.b g) hl) (x.HH (g:=.b g) hl) d u h
 | .s g,d,u,hl,h=>bP (x.hp (g:=.s g) hl) (x.HH (g:=.s g) hl) d u h
 | .t k,y,u,hl,h=>h.keep (λb hb=>(x.T k b (eR hl) hb).2) λb hb=>(x.T k b (eR hl) hb).1
theorem Qf(x:KG q l E w E' w'):∀{c:C} {u:Value},c.has q=η->c.hasR l=η->cvC E w c u->cvC E' w' c u
 | .d g d,u,_,hl,h=>gD_kg x hl h
 | .w o n,u,ho,_,⟨b,c,h,hu⟩=>⟨b,c,x.r _ _ (eR ho) h,hu⟩
 | .s o sz off len,u,ho,_,⟨A,c,b,k,h,hu⟩=>⟨A,c,b,k,x.r _ _ (eR ho) h,hu⟩
 | .p o k,u,ho,_,⟨b,c,h,hu⟩=>⟨b,c,x.r _ _ (eR ho) h,hu⟩
 | .e o sz i j,u,ho,_,⟨b,c,h,hu⟩=>⟨b,c,x.r _ _ (eR ho) h,hu⟩
 | .q g y j,u,_,hl,⟨b,k,hu,hb,h⟩=>⟨b,k,hu,x.HH hl b hb,rdL_mono (x.hp hl) (x.HH hl) y b k hb h⟩
 | .fn f,u,_,_,h=>h
 | .nil,u,_,_,h=>h
 | .any,u,_,_,_=>trivial
 | .r k d,u,_,hl,h=>bP (λb hb=>(x.T k b (eR hl) hb).2) (λb hb=>(x.T k b (eR hl) hb).1) d u h
 | .z d,u,_,_,h=>qy (λb hb=>(x.Z b hb).2) (λb hb=>(x.Z b hb).1) d u h
 | .zq y j,u,_,_,⟨b,k,hu,hb,h⟩=>⟨b,k,hu,(x.Z b hb).1,rsL_mono (λb hb=>(x.Z b hb).2) (λb hb=>(x.Z b hb).1) y b k hb h⟩
 | .wn o n,u,ho,_,.inl ⟨h1,h2⟩=>.inl ⟨(x.n o (eR ho)).2 h1,h2⟩
 | .wn o n,u,ho,_,.inr ⟨h1,b,c,h,hu⟩=>.inr ⟨λk=>h1 ((x.n o (eR ho)).1 k),b,c,x.r _ _ (eR ho) h,hu⟩
theorem PA(x:KG q l E w E' w'):∀{cs:List C} {us:Lae},Ae q cs=η->HE l cs=η->CV E w cs us->CV E' w' cs us
 |[],[],_,_,_=>trivial
 |c::cs,u::us,h1,h2,h=>by
  simp only[Ae,HE,ZB] at h1 h2
  exact⟨Qf x h1.1 h2.1 h.1,PA x h1.2 h2.2 h.2⟩
 |[],_::_,_,_,h=>h.elim
 |_::_,[],_,_,h=>h.elim
theorem Qi(x:KG q l E w E' w'){v:V}(h1:v.has q=η)(h2:v.hasR l=η)(h:cvV E w v u):cvV E' w' v u:=by
 cases v with
 |c c=>exact Qf x h1 h2 h
 |agg cs=>obtain⟨arr,hu,h⟩:=h;exact⟨arr,hu,PA x h1 h2 h⟩
theorem Wr(x:KG q l E w E' w'):∀{cs:List V} {us:Lae},DY q cs=η->Fr l cs=η->VV E w cs us->VV E' w' cs us
 |[],[],_,_,_=>trivial
 |c::cs,u::us,h1,h2,h=>by
  simp only[DY,Fr,ZB] at h1 h2
  exact⟨Qi x h1.1 h2.1 h.1,Wr x h1.2 h2.2 h.2⟩
 |[],_::_,_,_,h=>h.elim
 |_::_,[],_,_,h=>h.elim
theorem Xm(x:KG q l E w E' w'){t:T}(h1:t.has q=η)(h2:t.hasR l=η)(h:cvT E w t u):cvT E' w' t u:=by
 cases t with
 |v v=>exact Qi x h1 h2 h
 |tup ts=>obtain⟨arr,hu,h⟩:=h;exact⟨arr,hu,Wr x h1 h2 h⟩
 |any=>trivial
def Ob.hasR(l:Nat):Ob->Bool
 | .var _ cs=>HE l cs
 | .abs j _=>d0 j l
 | .row _ _ _ g _| .rown _ _ _ g=>g.hasR l
theorem Sq(x:KG q l E w E' w'){o:Nat}{ob:Ob}(ho:o≠q)(h1:ob.hasO q=η)(h2:ob.hasR l=η)(hb:∀b c,E.r o=ς (b,c)->w'.heap[b]?=w.heap[b]?)(hF:∀b c,E.r o=ς (b,c)->¬E.F b->¬E'.F b)(h:cg E w o ob):cg E' w' o ob:=by
 cases ob with
 |var ty cs=>
  obtain⟨b,c,arr,hr,hh',hc,hf⟩:=h
  exact⟨b,c,arr,x.r _ _ ho hr,(hb b c hr).trans hh',PA x h1 h2 hc,hF b c hr hf⟩
 |row ty sz els g m=>
  obtain⟨b,c,arr,hr,hh',a1,a2,a3,a4,a5,a6,a7⟩:=h
  exact⟨b,c,arr,x.r _ _ ho hr,(hb b c hr).trans hh',a1,a2,a3,a4,bS (x.hp h2) (x.HH h2) (hb b c hr) _ _ a5,λhm=>hF b c hr (a6 hm),λhm=>⟨x.H η b (a7.1 hm).1,λhg=>x.H ζ b ((a7.1 hm).2 hg)⟩,MS x (hb b c hr) h2 a7.2⟩
 |rown ty sz els g=>
  rcases h with⟨h0,h1⟩|⟨h0,b,c,arr,hr,hh',a1,a2,a3,a4,a5,a6⟩
  .exact .inl ⟨(x.n o ho).2 h0,h1⟩
  exact .inr ⟨λh=>h0 ((x.n o ho).1 h),b,c,arr,x.r _ _ ho hr,(hb b c hr).trans hh',a1,a2,a3,a4,bS (x.hp h2) (x.HH h2) (hb b c hr) _ _ a5,hF b c hr a6.1,MS x (hb b c hr) h2 a6.2⟩
 |abs j y=>
  rcases h with⟨h0,h1⟩|⟨h0,b,c,hr,a1,a2⟩
  .exact .inl ⟨(x.n o ho).2 h0,h1⟩
  exact .inr ⟨λh=>h0 ((x.n o ho).1 h),b,c,x.r _ _ ho hr,y.st _ _ _ _ _ _ a1 (λk hk=>(x.T j k (eR h2) hk).1) (hb b c hr) (λk hk=>(x.T j k (eR h2) hk).2),hF b c hr a2⟩
end
def sx(o:Nat):Laa->Laa
 |[]=>[]
 |(k,x)::r=>bif d0 k o then sx o r else(k,x)::sx o r
theorem xZ{o l:Nat}{x:Ob}:∀{ob:Laa},go (sx o ob) l=ς x->l≠o/\go ob l=ς x
 |[],h=>by cases h
 |(k,y)::r,h=>by
  rw[sx] at h
  cases hk:d0 k o with
  |true=>
   rw[hk] at h
   obtain⟨h1,h2⟩:=xZ h
   have:=Zo hk;subst this
   exact⟨h1,by rw[a9 _ _ (Ne.symm h1)];exact h2⟩
  |false=>
   rw[hk] at h
   by_cases e:k=l
   .subst e
    simp only[cond_false] at h
    rw[bM] at h ⊢;exact⟨eR hk,h⟩
   simp only[cond_false] at h
   rw[a9 _ _ e] at h ⊢;exact xZ h
def okO(q l:Nat):Laa->Bool
 |[]=>ζ
 |(_,x)::r=>(!x.hasO q&&!x.hasR l)&&okO q l r
theorem R3{q l o:Nat}{x:Ob}:∀{ob:Laa},okO q l ob=ζ->go ob o=ς x->x.hasO q=η/\x.hasR l=η
 |[],_,h=>by cases h
 |(k,y)::r,h0,h=>by
  simp only[okO,hV,ZD] at h0
  by_cases e:k=o
  .subst e;rw[bM] at h;simp_all
  rw[a9 _ _ e] at h;exact R3 h0.2 h
theorem zT{cx cx':Cx}{w':World}{o:Nat}{sl1 sl2:Lab}{ob1:Laa}(hR:Rel N cx E st a w)(ok':cF cx' E' w')(kg:KG q l E w E' w')(h1:gI q st.sl=ς sl1)(h2:ut l sl1=ς sl2)(h3:sx q (sx o st.ob)=ob1)(h4:okO q l ob1=ζ)(hy:cg E' w' o y)(hb:∀k b c,k≠q->k≠o->E.r k=ς (b,c)->w'.heap[b]?=w.heap[b]?)(hF:∀k b c,k≠q->k≠o->E.r k=ς (b,c)->¬E.F b->¬E'.F b)(hdom:∀o x,E'.r o=ς x->o<nx')(htd:∀l b,E'.T l b->l<nx'):
 Rel N cx' E' ⟨sl2,(o,y)::ob1,nx'⟩ a w':=by
 subst h3
 refine⟨ok',hdom,λk x hk=>?_,λk=>?_,hR.dfr,hR.size,htd⟩
 .by_cases e:o=k
  .subst e
   rw[bM] at hk;simp_all
  rw[a9 _ _ e] at hk
  obtain⟨k1,k2⟩:=R3 h4 hk
  obtain⟨k3,k4⟩:=xZ hk
  obtain⟨k5,k6⟩:=xZ k4
  exact Sq kg k3 k1 k2 (λb c hr=>hb k b c k3 k5 hr) (λb c hr=>hF k b c k3 k5 hr) (hR.obs k x k6)
 rcases Hl h2 k with e|⟨e1,e2⟩
 .show cvT E' w' (gt sl2 k) _;rw[e];trivial
 rcases qj h1 k with e|⟨e3,e4⟩
 .show cvT E' w' (gt sl2 k) _;rw[e1,e];trivial
 show cvT E' w' (gt sl2 k) _
 rw[e1,e3]
 exact Xm kg e4 (by simp_all) (hR.sl k)
def nv:Option (Nat×Nat)->Nat->Value
 |none,_=>.slice ξ 0 0
 |some (k,c),n=>.slice (ς ⟨k,0,ξ⟩) n c
def A9(w:World)(nt:TypeId)(k c:Nat)(xs:List Int):Prop:=(∃arr,w.heap[k]?=ς (.cells arr nt (0,0))/\arr.size=c)/\xs.length<=c/\c<=maxLen/\∀j x,xs[j]?=ς x->w.cell? ⟨k,j,ξ⟩=ς (.int .i64 x)
def Lm(w:World)(R:Nat->Prop)(nt:TypeId):Option (Nat×Nat)->List Int->Prop
 |none,xs=>xs=[]
 |some (k,c),xs=>R k/\A9 w nt k c xs
theorem A9.rd{nt:TypeId}{c:Nat}{xs:List Int}(h:A9 w nt k c xs)(F:Nat->Prop):rdLL w F (xs.map eI) k 0:=by
 refine tZ (sz:=1) (by simp[eI]) λi e hi=>?_
 rw[ZH] at hi
 cases hx:xs[i]? with
 |none=>simp_all
 |some x=>
  rw[hx] at hi;cases hi
  rw[eI,rdL,rdL]
  exact⟨⟨_,by simpa using h.2.2.2 i x hx,by rw[rdD]⟩,θ⟩
theorem A9.of{nt:TypeId}{c:Nat}{xs:List Int}{F:Nat->Prop}{arr:Array Value}(hh:w.heap[k]?=ς (.cells arr nt (0,0)))(ha:arr.size=c*1)(hl:(xs.map eI).length<=c)(hc:c<=maxLen)(h:rdLL w F (xs.map eI) k 0):A9 w nt k c xs:=by
 refine⟨⟨arr,hh,by omega⟩,by simp_all,hc,λj x hx=>?_⟩
 have:=ph (sz:=1) (i:=j) (e:=eI x) h (by simp[eI]) (by simp_all)
 rw[eI,rdL] at this
 obtain⟨u,h1,h2⟩:=this.1
 rw[rdD] at h2;simp_all
theorem A9.keep{w':World}{nt:TypeId}{c:Nat}{xs:List Int}(h:A9 w nt k c xs)(hk:w'.heap[k]?=w.heap[k]?):A9 w' nt k c xs:=by
 obtain⟨⟨arr,h1,h2⟩,h3,h4,h5⟩:=h
 exact⟨⟨arr,hk.trans h1,h2⟩,h3,h4,λj x hx=>(qT hk).trans (h5 j x hx)⟩
theorem Lm.keep{w':World}{R R':Nat->Prop}{nt:TypeId}{h:Option (Nat×Nat)}{xs:List Int}(hn:Lm w R nt h xs)(hR:∀k c,h=ς (k,c)->R k->R' k)(hk:∀k c,h=ς (k,c)->R k->w'.heap[k]?=w.heap[k]?):Lm w' R' nt h xs:=by
 cases h with
 |none=>exact hn
 |some p=>exact⟨hR _ _ rfl hn.1,hn.2.keep (hk _ _ rfl hn.1)⟩
def Hid.loc(nt:TypeId)(A:Option Addr)(n c:Nat)(xs:List Int):Hid where
 nl:=A=ξ/\n=0/\c=0/\xs=[]
 S:=λb k R w=>A=ς ⟨b,0,ξ⟩/\c=k/\n=xs.length/\A9 w nt b k xs
 st:=by
  rintro b c' R R' w w' ⟨h1,h2,h3,h4⟩ hR hb hk
  exact⟨h1,h2,h3,h4.keep hb⟩
abbrev Jz:=Option (Nat×Option Addr×Nat×Nat)
def xh:Jz->Nat->Bool
 |none,_=>η
 |some (j,_),i=>d0 j i
structure CxS(ty nt:TypeId)(els:List (Int×List Int))(ho:Jz)(b c:Nat)(R:Nat->Prop)(w:World)(hd:Nat->Option (Nat×Nat)):Prop where
 blk:∃arr,w.heap[b]?=ς (.cells arr ty (0,0))/\arr.size=c*2
 len:els.length<=c
 cap:c<=maxLen
 a:∀i e,els[i]?=ς e->w.cell? ⟨b,i*2,ξ⟩=ς (.int .i64 e.1)
 s:∀i e,els[i]?=ς e->xh ho i=η->w.cell? ⟨b,i*2+1,ξ⟩=ς (nv (hd i) e.2.length)
 ne:∀i e,els[i]?=ς e->xh ho i=η->Lm w R nt (hd i) e.2
 inj:∀i j k c c',i<els.length->j<els.length->xh ho i=η->xh ho j=η->hd i=ς (k,c)->hd j=ς (k,c')->i=j
 h:∀i A n k,ho=ς (i,A,n,k)->w.cell? ⟨b,i*2+1,ξ⟩=ς (.slice A n k)
def Hid.cx(ty nt:TypeId)(els:List (Int×List Int))(ho:Jz):Hid where
 nl:=els=[]
 S:=λb c R w=>∃hd,CxS ty nt els ho b c R w hd
 st:=by
  rintro b c R R' w w' ⟨hd,h⟩ hR hb hk
  obtain⟨⟨arr,h1,h2⟩,h3,h4,h5,h6,h7,h8,h9⟩:=h
  exact⟨hd,⟨arr,hb.trans h1,h2⟩,h3,h4,λi e hi=>(qT hb).trans (h5 i e hi),λi e hi hh=>(qT hb).trans (h6 i e hi hh),λi e hi hh=>(h7 i e hi hh).keep (λk _ _ hk=>hR k hk) (λk _ _ h=>hk k h),h8,λi A n k hh=>(qT hb).trans (h9 i A n k hh)⟩
abbrev Ob.cxo(o:Nat)(ty nt:TypeId)(els:List (Int×List Int))(ho:Jz):Ob:=.abs o (Hid.cx ty nt els ho)
section
variable{P:Program}{d:Option Tmp}{tt:TypeId}{ps:String}{af:Array Edge}{gd:Option (Nat×Bool)}{x y:Operand}
theorem AN{o:Nat}{nt:TypeId}{els:List (Int×List Int)}{ho:Jz}{e:Int×List Int}(he:els[i]?=ς e)(h:cg E w o (.cxo o ty nt els ho)):
 ¬E.n o/\∃b c hd,E.r o=ς (b,c)/\CxS ty nt els ho b c (E.T o) w hd/\¬E.F b:=by
 rcases h with⟨_,h1⟩|⟨h0,b,c,hr,⟨hd,h1⟩,h2⟩
 .have h1:els=[]:=h1
  simp_all
 grind
theorem Om{o:Nat}{nt:TypeId}{els:List (Int×List Int)}{ho:Jz}{e:Int×List Int}[g8 P t](he:els[i]?=ς e)(hh:xh ho i=η):
 AWN P ⟨d,.load t x,tt,ps,af,gd⟩ [(x,.v (.c (.e o 2 i 1)))] [(o,.cxo o ty nt els ho)] (.v (.c (.r o (.l (e.2.map eI))))) []:=
 cf λE ac w hn hb=>by
  obtain⟨b,c',hr,hu⟩:=hn x _ (.head _)
  obtain⟨_,b',c'',hd,hr',hS,_⟩:=AN he (hb o _ (.head _))
  rw[hr] at hr';cases hr'
  refine⟨nv (hd i) e.2.length,by simp[execOp,hu,lx (P:=P) (t:=t) (hS.s i e he hh)],?_⟩
  have hne:=hS.ne i e he hh
  show rdD w (E.T o) (.l (e.2.map eI)) _
  cases hdi:hd i with
  |none=>
   rw[hdi] at hne
   have hne:e.2=[]:=hne
   rw[hne];exact⟨ξ,0,rfl,Zu _,.inl rfl⟩
  |some p=>
   obtain⟨k,cc⟩:=p
   rw[hdi] at hne
   exact⟨ς ⟨k,0,ξ⟩,cc,by simp[nv],by simpa using hne.2.2.1,.inr ⟨k,0,rfl,hne.1,hne.2.rd _⟩⟩
theorem H8{o:Nat}{nt:TypeId}{els:List (Int×List Int)}{A:Option Addr}{e:Int×List Int}[g8 P t](he:els[i]?=ς e):
 AWN P ⟨d,.load t x,tt,ps,af,gd⟩ [(x,.v (.c (.e o 2 i 1)))] [(o,.cxo o ty nt els (ς (i,A,n,k)))] (.v (.c (.d η (.k A n k)))) []:=
 cf λE ac w hn hb=>by
  obtain⟨b,c',hr,hu⟩:=hn x _ (.head _)
  obtain⟨_,b',c'',hd,hr',hS,_⟩:=AN he (hb o _ (.head _))
  rw[hr] at hr';cases hr'
  exact⟨.slice A n k,by simp[execOp,hu,lx (P:=P) (t:=t) (hS.h i A n k rfl)],by rfl⟩
end
section
variable{P:Program}{N:Nat}{d:Tmp}{tt:TypeId}{ps:String}{af:Array Edge}{gd:Option (Nat×Bool)}{x y:Operand}{sl sl1 sl2:Lab}{ob ob1:Laa}{nx:Nat}
theorem Tf{c:C}{h:Hid}{z:Ob}(hs:Src nob c ys g)(hq:go nob q=ς (.abs l h)):Src ((q,z)::nob) c ys g:=by
 cases hs with
 |d=>exact .d
 |nil=>exact .nil
 |w h1 hn=>exact .w (by rw[a9 _ _ (λe=>by simp_all)];exact h1) hn
 |s h1 hn=>exact .s (by rw[a9 _ _ (λe=>by simp_all)];exact h1) hn
 |wn h1 hn=>exact .wn (by rw[a9 _ _ (λe=>by simp_all)];exact h1) hn
theorem Fy{nt by_ p c:Nat}{xs:List Int}{cc:C}[ht:da P t nt 1 by_](hrv:rsv q=η)(ho:go nob q=ς (.abs l (Hid.loc nt (ς ⟨k,0,ξ⟩) n c xs)))(hs:Src nob cc ys gy)(hn:xs.length=n)(hsz:∀e∈ys,e.length=1)(hb:(n+ys.length)*by_<=140737488355328)(h63:n+ys.length<=9223372036854775807):
 AWK P ⟨ς d,.call ⟨.builtin .append,#[x,y],#[t,t]⟩,tt,ps,af,gd⟩ [(x,.v (.c (.d η (.k (ς ⟨k,0,ξ⟩) n c)))),(y,.v (.c cc))] nob (.v (.c (.w p (n+ys.length)))) [(p,.row nt 1 (xs.map eI++ys) (ζ&&gy) ζ)] [] (ς q):=by
 intro cx E a w ok hne hnob hfr
 have hq:=hnob q _ (uR ho)
 rcases hq with⟨_,h1⟩|⟨_,b,c',hr,⟨h1,h2,h3,⟨⟨arr,h4,h5⟩,h6,h7,h8⟩⟩,hF⟩
 .have h1:ς (⟨k,0,ξ⟩:Addr)=ξ/\_:=h1
  cases h1.1
 cases h1
 subst h2
 have hrow:cg E w q (.row nt 1 (xs.map eI) ζ ζ):=⟨k,c,arr,hr,h4,by omega,by grind,h7,by simp[eI],A9.rd ⟨⟨arr,h4,h5⟩,h6,h7,h8⟩ _,λ_=>hF,(λh=>by cases h),θ⟩
 refine HU (P:=P) (d:=d) (ty:=tt) (ps:=ps) (af:=af) (gd:=gd) (x:=x) (y:=y) (t:=t) (e:=nt) (sz:=1) (by_:=by_) (o:=q) (q:=p) (n:=n) (els:=xs.map eI) (g:=ζ) (nob:=(q,.row nt 1 (xs.map eI) ζ ζ)::nob) hrv (bM _ _ _) (Tf hs ho) (by grind) hsz hb h63 cx E a w ok (λx' t' hm=>?_) (λl' ob' hm=>?_) hfr
 .rcases Zp.1 hm with e|hm
  .cases e
   have:=hne x _ (.head _)
   have:a.eval x= .slice (ς ⟨k,0,ξ⟩) n c:=this
   exact⟨k,c,hr,this⟩
  grind
 grind
theorem apk{nt by_ c:Nat}{xs zs:List Int}{cc:C}(ls:List Nat)[da P t nt 1 by_](H:cW by_ (xs++zs).length=ζ)(hzd:zs.map eI=zd)(hn:xs.length=n)(hp:oi ob ls=ς nob)(hs:Src nob cc zd ζ)(hd:nlt d N=ζ)(hx:opT sl x= .v (.c (.d η (.k (ς ⟨k,0,ξ⟩) n c))))(hy:opT sl y= .v (.c cc))(ho:go nob q=ς (.abs l (Hid.loc nt (ς ⟨k,0,ξ⟩) n c xs)))(hrv:rsv q=η)(hnx:nxt nx=ς nx'):
 NX P N ⟨ς d,.call ⟨.builtin .append,#[x,y],#[t,t]⟩,tt,ps,af,gd⟩ ⟨sl,ob,nx⟩ ⟨(d,.v (.c (.w nx (xs++zs).length)))::sl,(nx,.row nt 1 ((xs++zs).map eI) ζ ζ)::ob,nx'⟩
  ⟨⟨d,[(x,.v (.c (.d η (.k (ς ⟨k,0,ξ⟩) n c)))),(y,.v (.c cc))],nob,.v (.c (.w nx (xs++zs).length)),[(nx,.row nt 1 ((xs++zs).map eI) ζ ζ)]⟩,[],ς q⟩:=by
 subst hzd
 simp only[cW,decide_eq_true_eq,ZM] at H
 have:=Fy (P:=P) (d:=d) (tt:=tt) (ps:=ps) (af:=af) (gd:=gd) (x:=x) (y:=y) (t:=t) (nt:=nt) (by_:=by_) (p:=nx) (n:=n) hrv ho hs hn (by simp[eI]) (by simp_all) (by simp_all)
 rw[<-aad,ZU,<-hn,<-ZM] at this
 exact⟨by simp_all,.inl ⟨rfl,bO hd⟩,⟨hx,hy,θ⟩,qs hp,ly hnx,rfl⟩
theorem apNk{nt by_:Nat}{zs:List Int}{cc:C}(ls:List Nat)[da P t nt 1 by_](H:cW by_ zs.length=ζ)(hne:zs≠[])(hzd:zs.map eI=zd)(hp:oi ob ls=ς nob)(hs:Src nob cc zd ζ)(hd:nlt d N=ζ)(hx:opT sl x= .v (.c (.d η (.k ξ 0 0))))(hy:opT sl y= .v (.c cc))(hnx:nxt nx=ς nx'):
 NS P N ⟨ς d,.call ⟨.builtin .append,#[x,y],#[t,t]⟩,tt,ps,af,gd⟩ ⟨sl,ob,nx⟩ ⟨(d,.v (.c (.w nx zs.length)))::sl,(nx,.row nt 1 (zs.map eI) ζ ζ)::ob,nx'⟩
  ⟨d,[(x,.v (.c (.d η (.k ξ 0 0)))),(y,.v (.c cc))],nob,.v (.c (.w nx zs.length)),[(nx,.row nt 1 (zs.map eI) ζ ζ)]⟩:=by
 subst hzd
 simp only[cW,decide_eq_true_eq] at H
 have h1:=FL (P:=P) (d:=d) (ty:=tt) (ps:=ps) (af:=af) (gd:=gd) (x:=x) (y:=y) (t:=t) (e:=nt) (sz:=1) (by_:=by_) (q:=nx) hs (by simp_all) (by simp[eI]) (by simp_all) (by simp_all)
 rw[ZU] at h1
 refine⟨λcx E a w ok hnd hnob hfr=>h1 cx E a w ok (λx' t' hm=>?_) hnob hfr,rfl,bO hd,⟨hx,hy,θ⟩,qs hp,ly hnx,rfl⟩
 rcases Zp.1 hm with e|hm
 .cases e
  have h:a.eval x= .slice ξ 0 0:=hnd x (.v (.c (.d η (.k ξ 0 0)))) (.head _)
  exact h
 simp_all
end
section
variable{P:Program}{N:Nat}{d:Tmp}{tt:TypeId}{ps:String}{af:Array Edge}{gd:Option (Nat×Bool)}{x y:Operand}{sl sl1 sl2:Lab}{ob ob1:Laa}{nx:Nat}{AQ:Exit->St->Prop}
theorem Ih{o:Nat}{nt:TypeId}{els:List (Int×List Int)}{hole:Jz}{e:Int×List Int}{ys:List Int}[ht:TyN P t 1](hx:opT sl x= .v (.c (.e o 2 i 1)))(hy:opT sl y= .v (.c (.w s n)))(ho:go ob o=ς (.cxo o ty nt els hole))(hs:go ob s=ς (.row nt 1 (ys.map eI) g ζ))(hn:ys.length=n)(he:els[i]?=ς e)(hh:hole=ξ\/∃A n k,hole=ς (i,A,n,k))(hrv:rsv s=η)(hso:d0 s o=η)(hol:nlt o nx=ζ)(h1:gI s sl=ς sl1)(h2:ut s sl1=ς sl2)(h3:sx s (sx o ob)=ob1)(h4:okO s s ob1=ζ):
 AWO P N ⟨ξ,.store t x y,tt,ps,af,gd⟩ ⟨sl,ob,nx⟩ ⟨sl2,(o,.cxo o ty nt (els.set i (e.1,ys)) ξ)::ob1,nx⟩:=by
 intro cx E a w hR
 have hx1:=hR.op x;rw[hx] at hx1
 have hy1:=hR.op y;rw[hy] at hy1
 have ok:=hR.ok
 obtain⟨b,c,hr,hu⟩:=hx1
 obtain⟨hnn,b',c',hd,hr',hS,hF⟩:=AN he (hR.obs o _ ho)
 rw[hr] at hr';cases hr'
 obtain⟨bs,cs,hrs,hv⟩:=hy1
 obtain⟨bs',cs',arrs,hrs',hhs,has,hls,hcs,_,hrds,hFs,_⟩:=hR.obs s _ hs
 rw[hrs] at hrs';cases hrs'
 have hFs:=hFs rfl
 have hso:s≠o:=eR hso
 have hbb:bs≠b:=λe=>by subst e;exact hso (ok.inj _ _ _ _ _ hrs hr)
 have hil:i<els.length:=(v0.1 he).1
 have hrow:=A9.of hhs has hls hcs hrds
 obtain⟨arr,hh0,ha0⟩:=hS.blk
 have hvc:(a.eval y).cells= #[a.eval y]:=by rw[hv];rfl
 have hbound:i*2+1+1<=arr.size:=by have:=hS.len;omega
 have hrun:=oB (P:=P) (t:=t) (n:=1) (k:=i*2+1) (u:=a.eval y) (w:=w) (b:=b) (by rw[hvc];rfl) (by rw[hvc];simp;rw[hv];rfl) hh0 hbound
 unfold Oper.wp
 simp only[execOp,hu,Sem.run_bind,hrun,Result.andThen_ok,Sem.run_pure,Oper.upon_skip,Act.put]
 obtain⟨arr',harr'⟩:∃arr',arr'=(arr.toList.take (i*2+1)++(a.eval y).cells.toList++arr.toList.drop (i*2+1+1)).toArray:=⟨_,rfl⟩
 rw[<-harr']
 have hsz':arr'.size=arr.size:=by rw[harr',hvc];simp;omega
 have hget:∀j,arr'[j]?=if j=i*2+1 then ς (a.eval y) else arr[j]?:=by
  intro j
  rw[harr',aaF,je (by rw[hvc];rfl) oaa,hvc]
  by_cases hj:j=i*2+1
  .simp_all
  grind
 have hw':=fC arr' hh0
 have hcell:∀j,j≠i*2+1->(w.setRow b arr').cell? ⟨b,j,ξ⟩=w.cell? ⟨b,j,ξ⟩:=λj hj=>by rw[dw hw',dw hh0,hget,if_neg hj]
 have ok1:cF cx E (w.setRow b arr'):=yb ok hr hF
 have hk:=iQ (cs:=arr') (w:=w) ok hr hF
 have hTb:∀l k,E.T l k->k≠b:=λl k h e=>by subst e;exact(ok.sf.tb l k h).2.2.1 o c hr
 have hTs:∀l,¬E.T l bs:=λl h=>(ok.sf.tb l bs h).2.2.1 s cs hrs
 have hsb:=ok1.rb s bs cs hrs
 have hnew:cx.In bs:=hsb.2.resolve_right (λh=>by simp_all)
 obtain⟨E',hE'⟩:∃E':Env,E'={E with r:=λl=>if l=s then ξ else E.r l,T:=λl k=>E.T l k\/(l=o/\k=bs)}:=⟨_,rfl⟩
 have e_r:∀l p,E'.r l=ς p↔l≠s/\E.r l=ς p:=λl p=>by
  simp_all
 have e_T:∀l k,E'.T l k↔E.T l k\/(l=o/\k=bs):=λl k=>by simp_all
 have e_F:E'.F=E.F:=by subst hE';rfl
 have e_G:E'.G=E.G:=by subst hE';rfl
 have e_Z:E'.Z=E.Z:=by subst hE';rfl
 have e_n:E'.n=E.n:=by subst hE';rfl
 have e_H:∀(g:Bool),E'.H g=E.H g:=λg=>by cases g;exact e_F;exact e_G
 have ok':cF cx E' (w.setRow b arr'):=by
  refine⟨by rw[e_F];exact ok1.fb,by rw[e_F,e_G];exact ok1.gf,by rw[e_G];exact ok1.gn,λl b c h=>ok1.rb l b c ((e_r _ _).1 h).2,λl l' b c c' h h'=>ok1.inj l l' b c c' ((e_r _ _).1 h).2 ((e_r _ _).1 h').2,ok1.os,ok1.tape,ok1.output,ok1.size,ok1.block,λl p hp h=>ok1.pin l p hp ((e_r _ _).1 h).2,by rw[e_F];exact ok1.ff,by rw[e_F];exact ok1.gc,⟨λl k h=>?_,λl l' k h h'=>?_,λk h=>?_,ok1.sf.zs,by rw[e_Z];exact ok1.sf.ze⟩⟩
  .rcases(e_T l k).1 h with h|⟨rfl,rfl⟩
   .obtain⟨h1,h2,h3,h4⟩:=ok1.sf.tb l k h
    simp_all
   refine⟨⟨hsb.1,hnew⟩,by simp_all,λo' c' h'=>?_,.mk (by rw[c8 _ _ _ _ hbb];exact hhs)⟩
   obtain⟨h5,h6⟩:=(e_r _ _).1 h'
   exact h5 (ok.inj _ _ _ _ _ h6 hrs)
  .rcases(e_T l k).1 h with h|⟨rfl,rfl⟩<;>rcases(e_T l' k).1 h' with h'|⟨rfl,h'⟩
   .exact ok1.sf.tt l l' k h h'
   .simp_all
   .simp_all
   rfl
  obtain⟨h1,h2,h3,h4⟩:=ok1.sf.zc k h
  simp_all
 have kg:KG s s E w E' (w.setRow b arr'):=⟨λl p hl h=>(e_r _ _).2 ⟨hl,h⟩,λg k h=>by rw[e_H];exact h,λg k h=>hk.heap g k h,λl k _ h=>⟨(e_T l k).2 (.inl h),(hk.T l k h).2⟩,λk h=>⟨by simp_all,(hk.Z k h).2⟩,λl _=>by rw[e_n]⟩
 refine⟨E',zT hR ok' kg h1 h2 h3 h4 ?_ (λl b' c' hl hlo hrl=>c8 _ _ _ _ (λe=>by subst e;exact hlo (ok.inj _ _ _ _ _ hrl hr))) (λl b' c' _ _ _ hf=>by simp_all) (λl p h=>hR.dom l p ((e_r _ _).1 h).2) (λl k h=>?_)⟩
 .refine .inr ⟨by simp_all,b,c,(e_r _ _).2 ⟨Ne.symm hso,hr⟩,⟨λj=>if j=i then ς (bs,cs) else hd j,⟨arr',hw',by omega⟩,by simpa using hS.len,hS.cap,λj ej hj=>?_,λj ej hj _=>?_,λj ej hj _=>?_,λj j' k c1 c2 hj hj' _ _ q1 q2=>?_,λ_ _ _ _ h=>by cases h⟩,by simp_all⟩
  .rw[hcell _ oaa]
   rw[aaG] at hj
   by_cases e1:i=j
   .subst e1
    rw[if_pos rfl,if_pos hil] at hj;cases hj
    exact hS.a i e he
   rw[if_neg e1] at hj;exact hS.a j ej hj
  .rw[aaG] at hj
   by_cases e1:i=j
   .subst e1
    rw[if_pos rfl,if_pos hil] at hj;cases hj
    rw[dw hw',hget,if_pos rfl,if_pos rfl,hv,hn];rfl
   rw[if_neg e1] at hj
   rw[hcell _ oaa,if_neg (Ne.symm e1)]
   refine hS.s j ej hj ?_
   rcases hh with rfl|⟨A,n',k',rfl⟩
   .rfl
   exact gJ e1
  .rw[aaG] at hj
   by_cases e1:i=j
   .subst e1
    rw[if_pos rfl,if_pos hil] at hj;cases hj
    rw[if_pos rfl]
    exact⟨(e_T o bs).2 (.inr ⟨rfl,rfl⟩),hrow.keep (c8 _ _ _ _ hbb)⟩
   rw[if_neg e1] at hj
   rw[if_neg (Ne.symm e1)]
   refine(hS.ne j ej hj ?_).keep (λk c' _ hk'=>(e_T o k).2 (.inl hk')) (λk c' _ hk'=>c8 _ _ _ _ (hTb o k hk'))
   rcases hh with rfl|⟨A,n',k',rfl⟩
   .rfl
   exact gJ e1
  have hole_ne:∀j,j≠i->xh hole j=false:=λj hj=>by
   rcases hh with rfl|⟨A,n',k',rfl⟩
   .rfl
   exact gJ (Ne.symm hj)
  have hR':∀j,j≠i->j<els.length->∀k c',hd j=ς (k,c')->E.T o k:=λj hj hjl k c' hdj=>by
   have:=hS.ne j _ (Zl hjl) (hole_ne j hj)
   rw[hdj] at this
   exact this.1
  have hj:j<els.length:=by simpa using hj
  have hj':j'<els.length:=by simpa using hj'
  by_cases e1:j=i<;>by_cases e2:j'=i
  .rw[e1,e2]
  .grind
  .grind
  rw[if_neg e1] at q1;rw[if_neg e2] at q2
  exact hS.inj j j' k c1 c2 hj hj' (hole_ne j e1) (hole_ne j' e2) q1 q2
 rcases(e_T l k).1 h with h|⟨rfl,_⟩
 .exact hR.td l k h
 exact bO hol
end
section
variable{P:Program}{N:Nat}{sl sl1 sl2:Lab}{ob ob1:Laa}{nx:Nat}{AQ:Exit->St->Prop}
theorem F3{cx:Cx}{o:Nat}{z:Ob}(hR:Rel N cx E ⟨sl,ob,nx⟩ a w)(hz:cg E w o z):Rel N cx E ⟨sl,(o,z)::ob,nx⟩ a w:=
 ⟨hR.ok,hR.dom,λl x h=>by
  by_cases e:o=l
  .subst e;rw[bM] at h;simp_all
  rw[a9 _ _ e] at h;exact hR.obs l x h,hR.sl,hR.dfr,hR.size,hR.td⟩
theorem GX{c:Code}{o:Nat}{nt:TypeId}{els:List (Int×List Int)}{e:Int×List Int}(ho:go ob o=ς (.cxo o ty nt els ξ))(he:els[i]?=ς e)(hol:nlt o nx=ζ)(hrv:rsv nx=η)(h1:gI nx sl=ς sl1)(h2:ut o sl1=ς sl2)(h3:sx nx (sx o ob)=ob1)(h4:okO nx o ob1=ζ)(hnil:e.2=[]->AWC P N c ⟨sl2,(o,.cxo o ty nt els (ς (i,ξ,0,0)))::ob1,nx⟩ AQ)(hcons:∀k cc,AWC P N c ⟨sl2,(nx,.abs nx (Hid.loc nt (ς ⟨k,0,ξ⟩) e.2.length cc e.2))::(o,.cxo o ty nt els (ς (i,ς ⟨k,0,ξ⟩,e.2.length,cc)))::ob1,nx+1⟩ AQ):AWC P N c ⟨sl,ob,nx⟩ AQ:=by
 intro cx E a w hR
 have ok:=hR.ok
 obtain⟨hnn,b,cb,hd,hr,hS,hF⟩:=AN he (hR.obs o _ ho)
 have hil:i<els.length:=(v0.1 he).1
 have hs0:=hS.s i e he rfl
 have hn0:=hS.ne i e he rfl
 cases hdi:hd i with
 |none=>
  rw[hdi] at hs0 hn0
  refine hnil hn0 cx E a w (zT hR ok ⟨λ_ _ _ h=>h,λ_ _ h=>h,λ_ _ _=>rfl,λ_ _ _ h=>⟨h,rfl⟩,λb _=>⟨by assumption,oH.refl w b⟩,λ_ _=>Iff.rfl⟩ h1 h2 h3 h4 (.inr ⟨hnn,b,cb,hr,⟨hd,hS.blk,hS.len,hS.cap,hS.a,λj ej hj _=>hS.s j ej hj rfl,λj ej hj _=>hS.ne j ej hj rfl,λj j' k c1 c2 hj hj' _ _=>hS.inj j j' k c1 c2 hj hj' rfl rfl,λj A n k h=>?_⟩,hF⟩) (λ_ _ _ _ _ _=>rfl) (λ_ _ _ _ _ _ h=>h) hR.dom hR.td)
  cases h
  exact hs0
 |some p=>
  obtain⟨k,cc⟩:=p
  rw[hdi] at hs0 hn0
  obtain⟨hTk,hrow⟩:=hn0
  obtain⟨t1,t2,t3,t4⟩:=ok.sf.tb o k hTk
  obtain⟨E',hE'⟩:∃E':Env,E'={E with r:=λl=>if l=nx then ς (k,cc) else E.r l,T:=λl j=>E.T l j/\j≠k,n:=λl=>l≠nx/\E.n l}:=⟨_,rfl⟩
  have e_r:∀l p,E'.r l=ς p↔(l=nx/\p=(k,cc))\/(l≠nx/\E.r l=ς p):=λl p=>by
   subst hE'
   grind
  have e_T:∀l j,E'.T l j↔E.T l j/\j≠k:=λl j=>by simp_all
  have e_F:E'.F=E.F:=by subst hE';rfl
  have e_G:E'.G=E.G:=by subst hE';rfl
  have e_Z:E'.Z=E.Z:=by subst hE';rfl
  have e_n:∀l,E'.n l↔l≠nx/\E.n l:=λl=>by simp_all
  have e_H:∀(g:Bool),E'.H g=E.H g:=λg=>by cases g;exact e_F;exact e_G
  have hnx:∀l p,E.r l=ς p->l≠nx:=λl p h=>aaH (hR.dom l p h)
  have hon:o≠nx:=aaH (bO hol)
  have ok':cF cx E' w:=by
   refine⟨by rw[e_F];exact ok.fb,by rw[e_F,e_G];exact ok.gf,by rw[e_G];exact ok.gn,λl j c h=>?_,λl l' j c c' h h'=>?_,ok.os,ok.tape,ok.output,ok.size,ok.block,λl p hp h=>?_,by rw[e_F];exact ok.ff,by rw[e_F];exact ok.gc,⟨λl j h=>?_,λl l' j h h'=>ok.sf.tt l l' j ((e_T _ _).1 h).1 ((e_T _ _).1 h').1,λj h=>?_,ok.sf.zs,by rw[e_Z];exact ok.sf.ze⟩⟩
   .rcases(e_r _ _).1 h with⟨rfl,hp⟩|⟨_,h⟩
    .simp_all
    exact ok.rb l j c h
   .rcases(e_r _ _).1 h with⟨rfl,hp⟩|⟨q1,h⟩<;>rcases(e_r _ _).1 h' with⟨rfl,hp'⟩|⟨q2,h'⟩
    .rfl
    .simp_all
    .simp_all
    exact ok.inj l l' j c c' h h'
   .rcases(e_r _ _).1 h with⟨rfl,hp'⟩|⟨_,h⟩
    .rw[mn hrv] at hp;cases hp
    exact ok.pin l p hp h
   .obtain⟨h,hj⟩:=(e_T _ _).1 h
    obtain⟨u1,u2,u3,u4⟩:=ok.sf.tb l j h
    simp_all
   obtain⟨u1,u2,u3,u4⟩:=ok.sf.zc j h
   refine⟨u1,by rw[e_F];exact u2,λl c hl=>?_,u4⟩
   rcases(e_r _ _).1 hl with⟨_,hp⟩|⟨_,hl⟩
   .cases hp;exact ok.sf.tz hTk h
   exact u3 l c hl
  have kg:KG nx o E w E' w:=⟨λl p hl h=>(e_r _ _).2 (.inr ⟨hl,h⟩),λg j h=>by rw[e_H];exact h,λ_ _ _=>rfl,λl j hl h=>⟨(e_T _ _).2 ⟨h,λe=>by subst e;exact hl (ok.sf.tt l o j h hTk)⟩,rfl⟩,λj h=>⟨by simp_all,oH.refl w j⟩,λl hl=>by simp_all⟩
  refine hcons k cc cx E' a w (F3 (zT hR ok' kg h1 h2 h3 h4 (.inr ⟨by simp_all,b,cb,(e_r _ _).2 (.inr ⟨hon,hr⟩),⟨hd,hS.blk,hS.len,hS.cap,hS.a,λj ej hj _=>hS.s j ej hj rfl,λj ej hj hjh=>(hS.ne j ej hj rfl).keep (λk' c' hk' hT=>(e_T o k').2 ⟨hT,λek=>?_⟩) (λ_ _ _ _=>rfl),λj j' k c1 c2 hj hj' _ _=>hS.inj j j' k c1 c2 hj hj' rfl rfl,λj A n k' h=>?_⟩,by simp_all⟩)
   (λ_ _ _ _ _ _=>rfl) (λl b' c' _ _ _ h=>by simp_all) (λl p h=>?_) (λl j h=>aaL (hR.td l j ((e_T _ _).1 h).1))) (.inr ⟨by simp_all,k,cc,(e_r _ _).2 (.inl ⟨rfl,rfl⟩),⟨rfl,rfl,rfl,hrow⟩,by simp_all⟩))
  .subst ek
   have:=hS.inj j i k' c' cc (v0.1 hj).1 hil rfl rfl hk' hdi
   subst this
   simp[xh] at hjh
  .cases h;exact hs0
  rcases(e_r _ _).1 h with⟨rfl,_⟩|⟨_,h⟩
  .omega
  exact aaL (hR.dom l p h)
theorem Wk{o:Nat}{nt:TypeId}{al:List Int}(ho:go ob o=ς (.rown ty 2 (al.map λa=>[.i .i64 a,.k ξ 0 0]) g))(h3:sx o ob=ob1):cB N ⟨sl,ob,nx⟩ ⟨sl,(o,.cxo o ty nt (al.map λa=>(a,[])) ξ)::ob1,nx⟩:=by
 subst h3
 intro cx E a w hR
 refine⟨E,hR.ok,hR.dom,λl x h=>?_,hR.sl,hR.dfr,hR.size,hR.td⟩
 by_cases e:o=l
 .subst e
  rw[bM] at h;cases h
  rcases hR.obs o _ ho with⟨h0,h1⟩|⟨h0,b,c,arr,hr,hh,h1,h2,h3,h4,h5,h6⟩
  .refine .inl ⟨h0,?_⟩
   show al.map _=[]
   simp_all
  have key:∀i e,(al.map λa=>((a,[]):Int×List Int))[i]?=ς e->w.cell? ⟨b,i*2,ξ⟩=ς (.int .i64 e.1)/\w.cell? ⟨b,i*2+1,ξ⟩=ς (.slice ξ 0 0)/\e.2=[]:=by
   intro i e hi
   rw[ZH] at hi
   cases ha:al[i]? with
   |none=>simp_all
   |some x=>
    rw[ha] at hi;cases hi
    have:=ph (sz:=2) (i:=i) (e:=[.i .i64 x,.k ξ 0 0]) h5 h4 (by simp_all)
    rw[rdL,rdL] at this
    obtain⟨⟨u,u1,u2⟩,⟨v,v1,v2⟩,_⟩:=this
    simp only[rdD] at u2 v2
    simp_all
  refine .inr ⟨h0,b,c,hr,⟨λ_=>ξ,⟨arr,hh,h1⟩,by simp_all,h3,λi e hi=>(key i e hi).1,λi e hi _=>?_,λi e hi _=>(key i e hi).2.2,λ_ _ _ _ _ _ _ _ _ h=>(by cases h),λ_ _ _ _ h=>(by cases h)⟩,h6.1⟩
  rw[(key i e hi).2.2];exact(key i e hi).2.1
 rw[a9 _ _ e] at h
 exact hR.obs l x (xZ h).2
def QB(e:Int×List Int):List D:=[.i .i64 e.1,.l (e.2.map eI)]
theorem Lg{o:Nat}{nt:TypeId}{els:List (Int×List Int)}(ho:go ob o=ς (.cxo o ty nt els ξ))(h1:gI nx sl=ς sl1)(h2:ut o sl1=ς sl2)(h3:sx nx (sx o ob)=ob1)(h4:okO nx o ob1=ζ):
 cB N ⟨sl,ob,nx⟩ ⟨sl2,(o,.rown ty 2 (els.map QB) ζ)::ob1,nx⟩:=by
 intro cx E a w hR
 have ok:=hR.ok
 obtain⟨E',hE'⟩:∃E':Env,E'={E with F:=λj=>E.F j\/E.T o j,G:=λj=>E.G j\/E.T o j,T:=λl j=>l≠o/\E.T l j}:=⟨_,rfl⟩
 have e_T:∀l j,E'.T l j↔l≠o/\E.T l j:=λl j=>by simp_all
 have e_F:∀j,E'.F j↔E.F j\/E.T o j:=λj=>by simp_all
 have e_G:∀j,E'.G j↔E.G j\/E.T o j:=λj=>by simp_all
 have e_r:E'.r=E.r:=by subst hE';rfl
 have e_Z:E'.Z=E.Z:=by subst hE';rfl
 have e_n:E'.n=E.n:=by subst hE';rfl
 have ok':cF cx E' w:=by
  refine⟨λj h=>?_,λj h=>?_,λj h=>?_,by rw[e_r];exact ok.rb,by rw[e_r];exact ok.inj,ok.os,ok.tape,ok.output,ok.size,ok.block,by rw[e_r];exact ok.pin,λj h=>?_,λj h h'=>?_,⟨λl j h=>?_,λl l' j h h'=>ok.sf.tt l l' j ((e_T _ _).1 h).2 ((e_T _ _).1 h').2,λj h=>?_,ok.sf.zs,by rw[e_Z];exact ok.sf.ze⟩⟩
  .rcases(e_F j).1 h with h|h
   .exact ok.fb j h
   exact(ok.sf.tb o j h).1.1
  .rcases(e_G j).1 h with h|h
   .exact(e_F j).2 (.inl (ok.gf j h))
   simp_all
  .rcases(e_G j).1 h with h|h
   .exact ok.gn j h
   exact(ok.sf.tb o j h).1.2.ng
  .rcases(e_F j).1 h with h|h
   .exact ok.ff j h
   exact(ok.sf.tb o j h).1.2.nf
  .rcases(e_F j).1 h with h|h
   .exact ok.gc j h h'
   exact(ok.sf.tb o j h).2.2.2
  .obtain⟨hl,h⟩:=(e_T _ _).1 h
   obtain⟨u1,u2,u3,u4⟩:=ok.sf.tb l j h
   refine⟨u1,λhf=>?_,by simp_all,u4⟩
   rcases(e_F j).1 hf with hf|hf
   .exact u2 hf
   exact hl (ok.sf.tt l o j h hf)
  obtain⟨u1,u2,u3,u4⟩:=ok.sf.zc j h
  refine⟨u1,λhf=>?_,by simp_all,u4⟩
  rcases(e_F j).1 hf with hf|hf
  .exact u2 hf
  exact ok.sf.tz hf h
 have hFr:∀l b c,E.r l=ς (b,c)->¬E.F b->¬E'.F b:=λl b c hr hn hf=>by
  rcases(e_F b).1 hf with hf|hf
  .exact hn hf
  exact(ok.sf.tb o b hf).2.2.1 l c hr
 have kg:KG nx o E w E' w:=⟨λl p _ h=>by simp_all,λg j h=>by cases g;exact(e_F j).2 (.inl h);exact(e_G j).2 (.inl h),λ_ _ _=>rfl,λl j hl h=>⟨(e_T _ _).2 ⟨hl,h⟩,rfl⟩,λj h=>⟨by simp_all,oH.refl w j⟩,λl _=>by rw[e_n]⟩
 refine⟨E',zT hR ok' kg h1 h2 h3 h4 ?_ (λ_ _ _ _ _ _=>rfl) (λl b c _ _ hr=>hFr l b c hr) (by rw[e_r];exact hR.dom) (λl j h=>hR.td l j ((e_T _ _).1 h).2)⟩
 rcases hR.obs o _ ho with⟨h0,h0'⟩|⟨h0,b,c,hr,⟨hd,hS⟩,hF⟩
 .have h0':els=[]:=h0'
  exact .inl ⟨by simp_all,by rw[h0'];rfl⟩
 obtain⟨arr,hh,ha⟩:=hS.blk
 refine .inr ⟨by simp_all,b,c,arr,by simp_all,hh,ha,by simpa using hS.len,hS.cap,(λe he=>by obtain⟨x,_,rfl⟩:=Z9.1 he;rfl),tZ (sz:=2) (λe he=>by obtain⟨x,_,rfl⟩:=Z9.1 he;rfl) λi e hi=>?_,hFr o b c hr hF,θ⟩
 rw[ZH] at hi
 cases hx:els[i]? with
 |none=>simp_all
 |some x=>
  rw[hx] at hi;cases hi
  rw[QB,rdL,rdL,rdL,Zs]
  refine⟨⟨_,hS.a i x hx,by rw[rdD]⟩,⟨_,hS.s i x hx rfl,?_⟩,θ⟩
  have hne:=hS.ne i x hx rfl
  rw[rdD]
  cases hdi:hd i with
  |none=>
   rw[hdi] at hne
   have hne:x.2=[]:=hne
   rw[hne];exact⟨ξ,0,rfl,Zu _,.inl rfl⟩
  |some p=>
   obtain⟨k,cc⟩:=p
   rw[hdi] at hne
   exact⟨ς ⟨k,0,ξ⟩,cc,by simp[nv],by simpa using hne.2.2.1,.inr ⟨k,0,rfl,(e_G k).2 (.inr hne.1),hne.2.rd _⟩⟩
end
def Rv(f:C->Option C):Ob->Option Ob
 | .abs l h=>ς (.abs l h)
 |x=>yH f x
theorem Mq{f:C->Option C}{o:Nat}(h:Rv f x=ς y)(hf:∀c c' u,f c=ς c'->cvC E w c u->cvC E' w c' u)(hr:∀p,E.r l=ς p->E'.r o=ς p)(hn:E'.n o↔E.n l)(hH:∀(g:Bool) b,E.H g b->E'.H g b)(hF:∀b,¬E.F b->¬E'.F b)(hT:∀j z,x= .abs j z->∀b,E.T j b->E'.T j b)(hx:cg E w l x):cg E' w o y:=by
 cases x with
 |abs j z=>
  cases h
  rcases hx with⟨h1,h2⟩|⟨h1,b,c,k1,k2,k3⟩
  .exact .inl ⟨hn.2 h1,h2⟩
  exact .inr ⟨λk=>h1 (hn.1 k),b,c,hr _ k1,z.st _ _ _ _ w w k2 (hT j z rfl) rfl (λ_ _=>rfl),hF b k3⟩
 |var t cs=>exact yI (x:=.var t cs) h hf (λb c _ hr'=>hr _ hr') hn hH (λb c _ _=>hF b) hx
 |row t sz els g m=>exact yI (x:=.row t sz els g m) h hf (λb c _ hr'=>hr _ hr') hn hH (λb c _ _=>hF b) hx
 |rown t sz els g=>exact yI (x:=.rown t sz els g) h hf (λb c _ hr'=>hr _ hr') hn hH (λb c _ _=>hF b) hx
def Im(f:C->Option C)(ob:Laa):Lac->Option Laa
 |[]=>ς []
 |(k,o)::r=>match go ob o with
  |some x=>match Rv f x,Im f ob r with
   |some y,ς ys=>ς ((k,y)::ys)
   |_,_=>ξ
  |none=>ξ
theorem Io{f:C->Option C}{ob:Laa}:∀{m:Lac} {xs:Laa} {l:Nat} {x:Ob},Im f ob m=ς xs->go xs l=ς x->∃o x0,bQ m l=ς o/\go ob o=ς x0/\Rv f x0=ς x
 |[],xs,l,x,h,hg=>by simp[Im] at h;subst h;cases hg
 |(k,o)::r,xs,l,x,h,hg=>by
  simp only[Im] at h
  split at h
  .rename_i x0 h0
   split at h
   .rename_i y ys h1 h2
    simp at h;subst h
    by_cases e:k=l
    .subst e;rw[bM] at hg;cases hg;exact⟨o,x0,by simp[bQ],h0,h1⟩
    rw[a9 _ _ e] at hg
    obtain⟨o',x',a1,a2,a3⟩:=Io h2 hg
    exact⟨o',x',by simp only[bQ,gJ e];exact a1,a2,a3⟩
   cases h
  cases h
def Rw(m:Lac):Laa->Option Laa
 |[]=>ς []
 |(k,x)::r=>match bQ m k,Rv (rlC m) x,Rw m r with
  |some o,ς y,ς ys=>ς ((o,y)::ys)
  |_,_,_=>ξ
theorem Mr{m:Lac}(hinj:∀a a' b,bQ m a=ς b->bQ m a'=ς b->a=a'):∀{ys ys':Laa} {o:Nat} {y':Ob},Rw m ys=ς ys'->go ys' o=ς y'->∃k y,bQ m k=ς o/\go ys k=ς y/\Rv (rlC m) y=ς y'
 |[],ys',o,y',h,hg=>by simp[Rw] at h;subst h;cases hg
 |(k,x)::r,ys',o,y',h,hg=>by
  simp only[Rw] at h
  split at h
  .rename_i o1 y1 ys1 h1 h2 h3
   simp at h;subst h
   by_cases e:o1=o
   .subst e;rw[bM] at hg;cases hg;exact⟨k,x,h1,bM _ _ _,h2⟩
   rw[a9 _ _ e] at hg
   obtain⟨k',y,a1,a2,a3⟩:=Mr hinj h3 hg
   have hne:k≠k':=λe'=>by simp_all
   exact⟨k',y,a1,by rw[a9 _ _ hne];exact a2,a3⟩
  cases h
def kpC(pn:Lac):C->C
 | .p o k=>match bQ pn o with
  |some _=>.p o k
  |none=>.any
 | .d _ (.i k n)=>.d η (.i k n)
 | .d _ (.b b)=>.d η (.b b)
 | .d _ (.str s)=>.d η (.str s)
 |_=>.any
def kpT(pn:Lac):T->T
 | .v (.c c)=>.v (.c (kpC pn c))
 |_=>.any
def kpS(pn:Lac):Lab->Lab
 |[]=>[]
 |(k,t)::r=>(k,kpT pn t)::kpS pn r
theorem Ro(pn:Lac):∀(sl:Lab) (k:Nat),gt (kpS pn sl) k=kpT pn (gt sl k)
 |[],k=>rfl
 |(j,t)::r,k=>by
  rw[kpS]
  by_cases e:j=k
  .subst e;rw[cG,cG]
  rw[b7 _ _ e,b7 _ _ e];exact Ro pn r k
def XV(m:Lac)(p:Nat×Nat):Bool:=m.any λq=>d0 q.1 p.1&&d0 q.2 p.2
theorem FH{m:Lac}{p:Nat×Nat}(h:XV m p=ζ):p∈m:=by
 obtain⟨q,h1,h2⟩:=ZG.1 h
 simp only[hV] at h2
 have a:=Zo h2.1
 have b:=Zo h2.2
 grind
def WD(m m':Lac)(ys:Laa)(nx nx':Nat):Bool:=
 gm (m.map (·.1))&&gm (m.map (·.2))&&gm (m'.map (·.1))&&gm (m'.map (·.2))&&
 m.all (λp=>nlt p.1 nx&&(!rsv p.2||rsv p.1)&&(!rsp p.1||XV m' p&&match go ys p.1 with|some (.var _ _)=>ζ|_=>η))&&
 m'.all (λp=>nlt p.2 nx'&&((rsp p.1&&XV m p)||(!rsv p.1&&!rsv p.2)))
def Ba(n:Nat):Laa->Bool
 |[]=>ζ
 |(_,.abs j _)::r=>nlt j n&&Ba n r
 |_::r=>Ba n r
theorem Bb{n k j:Nat}{z:Hid}:∀{ob:Laa},Ba n ob=ζ->go ob k=ς (.abs j z)->j<n
 |[],_,h=>by cases h
 |(k',x)::r,h0,h=>by
  by_cases e:k'=k
  .subst e;rw[bM] at h;cases h
   simp only[Ba,hV] at h0;exact bO h0.1
  rw[a9 _ _ e] at h
  cases x<;>first|(simp only[Ba,hV] at h0;exact Bb h0.2 h)|(simp only[Ba] at h0;exact Bb h0 h)
def pinned(m:Lac):Lac:=(m.filter λp=>rsp p.1).map λp=>(p.2,p.1)
theorem o_inl{N':Nat}{d:Tmp}{ps:String}{af:Array Edge}{gd:Option (Nat×Bool)}{fn:Func}{c:Code}{args:List Operand}{tys:Array TypeId}{ob obs2:Laa}{ts ts2:List T}{ys ys':Laa}{m m':Lac}{sl0:Lab}{rs:List ResultVar}(hf:P.funcs[f]?=ς fn)(hb:fn.body=ς c)(hnm:(fn.name== "runtime.NumGoroutine")=η)(hN:fn.ntmps=N')(hrs:fn.results.toList=rs)(h:AWC P N' c ⟨sl0,obs2,nx⟩ (mU N' P rs ys out []))(ht:ni sl args=ς ts)(ha:og (rlC (inv m)) ts=ς ts2)(hle:Zw ts2.length N'=ζ)(hs0:tG 0 ts2=sl0)(hx:Im (rlC (inv m)) ob m=ς obs2)(hm:WD m m' ys nx nx'=ζ)(hj:Ba nx' ys=ζ)(hy:Rw m' ys=ς ys')(ho:sJ (rlC m') out=ς out')(hs:kpS (pinned m) sl=sl')(hd:nlt d N=ζ):
 AWO P N ⟨ς d,.call ⟨.value (.func f),args.toArray,tys⟩,ty,ps,af,gd⟩ ⟨sl,ob,nx⟩ ⟨(d,out')::sl',ys',nx'⟩:=by
 subst hs0;subst hrs;subst hs
 intro cx E a w hR
 have ok:=hR.ok
 obtain⟨t1,t2⟩:=nN ht
 simp only[WD,hV,Zq,ZC,ZD] at hm
 obtain⟨⟨⟨⟨⟨hm1,hm2⟩,hm3⟩,hm4⟩,hm5⟩,hm6⟩:=hm
 have ndm1:=eP hm1
 have ndm2:=eP hm2
 have ndm3:=eP hm3
 have ndm4:=eP hm4
 have inv_of:∀{k o},bQ m k=ς o->bQ (inv m) o=ς k:=λh=>dX (by rw[me];exact ndm2) (gQ.2 (cp h))
 have of_inv:∀{k o},bQ (inv m) o=ς k->bQ m k=ς o:=λh=>dX ndm1 (gQ.1 (cp h))
 have inv_of':∀{k o},bQ m' k=ς o->bQ (inv m') o=ς k:=λh=>dX (by rw[me];exact ndm4) (gQ.2 (cp h))
 have of_inv':∀{k o},bQ (inv m') o=ς k->bQ m' k=ς o:=λh=>dX ndm3 (gQ.1 (cp h))
 obtain⟨E2,hE2⟩:∃E2:Env,E2={E with r:=λk=>match bQ m k with|some o=>E.r o|none=>ξ,n:=λk=>match bQ m k with|some o=>E.n o|none=>False}:=⟨_,rfl⟩
 have e_r:∀k o,bQ m k=ς o->E2.r k=E.r o:=λk o h=>by simp_all
 have e_n:∀k o,bQ m k=ς o->(E2.n k↔E.n o):=λk o h=>by simp_all
 have e_r':∀k p,E2.r k=ς p->∃o,bQ m k=ς o/\E.r o=ς p:=λk p h=>by
  subst hE2
  grind
 have e_F:E2.F=E.F:=by subst hE2;rfl
 have e_G:E2.G=E.G:=by subst hE2;rfl
 have e_T:E2.T=E.T:=by subst hE2;rfl
 have e_Z:E2.Z=E.Z:=by subst hE2;rfl
 have e_H:∀(g:Bool),E2.H g=E.H g:=λg=>by cases g;exact e_F;exact e_G
 let cx2:Cx:=⟨cx.w0,cx.W,E2.r,cx.F0,cx.Z,cx.gw,cx.G0⟩
 have ok2:cF cx2 E2 w:=by
  refine⟨by rw[e_F];exact ok.fb,by rw[e_F,e_G];exact ok.gf,by rw[e_G];exact ok.gn,λk b c h=>?_,λk k' b c c' h h'=>?_,ok.os,ok.tape,ok.output,ok.size,ok.block,λ_ _ _ h=>h,by rw[e_F];exact ok.ff,by rw[e_F];exact ok.gc,⟨λl b h=>?_,by rw[e_T];exact ok.sf.tt,λb h=>?_,ok.sf.zs,by rw[e_Z];exact ok.sf.ze⟩⟩
  .obtain⟨o,h1,h2⟩:=e_r' k _ h
   obtain⟨h3,h4⟩:=ok.rb o b c h2
   refine⟨h3,h4.imp id λ⟨q1,q2⟩=>⟨q1,?_⟩⟩
   rcases(hm5 _ (cp h1)).1.2 with h|h
   .simp_all
   exact h
  .obtain⟨o,h1,h2⟩:=e_r' k _ h
   obtain⟨o',h1',h2'⟩:=e_r' k' _ h'
   have:=ok.inj o o' b c c' h2 h2';grind
  .rw[e_T] at h
   obtain⟨h1,h2,h3,h4⟩:=ok.sf.tb l b h
   exact⟨h1,by rw[e_F];exact h2,λk c hk=>(e_r' k _ hk).elim λo h=>h3 o c h.2,h4⟩
  obtain⟨h1,h2,h3,h4⟩:=ok.sf.zc b h
  grind
 have hin:∀c c' u,rlC (inv m) c=ς c'->cvC E w c u->cvC E2 w c' u:=by
  intro c c' u h hc
  cases c with
  |d g x=>cases g<;>cases h;rename_i g;exact bP (F:=E.H g) (λ_ _=>rfl) (λb hb=>by rw[e_H];exact hb) _ _ hc
  |nil=>cases h;exact hc
  |any=>cases h;trivial
  |fn f=>cases h;exact hc
  |w l n=>
   simp only[rlC] at h
   split at h
   .rename_i k h1;cases h
    obtain⟨b,cc,q1,q2⟩:=hc
    exact⟨b,cc,(e_r k l (of_inv h1)).trans q1,q2⟩
   cases h
  |wn l n=>
   simp only[rlC] at h
   split at h
   .rename_i k h1;cases h
    rcases hc with⟨q0,q1⟩|⟨q0,b,cc,q1,q2⟩
    .exact .inl ⟨(e_n k l (of_inv h1)).2 q0,q1⟩
    exact .inr ⟨λq=>q0 ((e_n k l (of_inv h1)).1 q),b,cc,(e_r k l (of_inv h1)).trans q1,q2⟩
   cases h
  |p l n=>
   simp only[rlC] at h
   split at h
   .rename_i k h1;cases h
    obtain⟨b,cc,q1,q2⟩:=hc
    exact⟨b,cc,(e_r k l (of_inv h1)).trans q1,q2⟩
   cases h
  |s l x y z=>
   simp only[rlC] at h
   split at h
   .rename_i k h1;cases h
    obtain⟨A,q,b,cc,q1,q2⟩:=hc
    exact⟨A,q,b,cc,(e_r k l (of_inv h1)).trans q1,q2⟩
   cases h
  |_=>cases h
 have hTV:TV E2 w ts2 (args.map a.eval):=yo hin ha t1 (λx t hm=>by have:=hR.op x;rwa [Lk.mem t2 x t hm] at this)
 obtain⟨v1,v2⟩:=AG 0 hTV
 have hle':ts2.length<=N':=ZK hle
 obtain⟨vals,hvals⟩:∃vals:Array Value,vals=(args.map a.eval).toArray:=⟨_,rfl⟩
 have hsz:vals.size=ts2.length:=by rw[hvals];simpa using v1
 have hR2:Rel N' cx2 E2 ⟨tG 0 ts2,obs2,nx⟩ {tmps:=vals++Zv (fn.ntmps-vals.size) undef,defers:=[]} w:=by
  refine⟨ok2,λk p h=>?_,λk x h=>?_,λk=>?_,rfl,by simp;omega,λl b h=>by rw[e_T] at h;exact hR.td l b h⟩
  .obtain⟨o,h1,_⟩:=e_r' k p h
   exact bO (hm5 _ (cp h1)).1.1
  .obtain⟨o,x0,h1,h2,h3⟩:=Io hx h
   exact Mq h3 hin (λp hp=>(e_r k o h1).trans hp) (e_n k o h1) (λg b hb=>by rw[e_H];exact hb) (λb hb=>by simp_all) (λj z _ b hb=>by simp_all) (hR.obs o x0 h2)
  by_cases hk:k<ts2.length
  .obtain⟨u,h3,h4⟩:=(v2 k).1 ⟨ZA _,by omega⟩
   have:(vals++Zv (fn.ntmps-vals.size) undef).getD k undef=u:=by
    have h5:vals[k]?=ς u:=by rw[hvals];simpa using h3
    have h6:(vals++Zv (fn.ntmps-vals.size) undef)[k]?=ς u:=by rw[Array.getElem?_append_left oaa];exact h5
    simp[h6]
   grind
  have:=(v2 k).2 oaa
  show cvT _ w (gt (tG 0 ts2) k) _
  rw[this];trivial
 have hwp:=h cx2 E2 _ w hR2
 have hcalls:Calls P f vals w λe w'=>∃v E',e= .returned v/\cF cx2 E' w'/\cvT E' w' out v/\(∀l y,go ys l=ς y->cg E' w' l y):=by
  refine calls_of_wp hf hb (wp_mono hwp ?_)
  rintro e a' w' ⟨E',s',hR',hq⟩
  have fin:(∃s'' vs,cB N' s' s''/\it P s'' fn.results.toList vs/\Ko vs=out/\LoA s''.ob ys/\LoA s''.ob [])->
   a'.defers=[]/\∃v,(results fn a'.tmps).run P w'= .ok v w'/\∃v' E',Ending.returned v= .returned v'/\cF cx2 E' w'/\cvT E' w' out v'/\(∀l y,go ys l=ς y->cg E' w' l y):=by
   rintro⟨s'',vs,hw,hres,ho,hys,_⟩
   obtain⟨E'',hR''⟩:=hw _ _ _ _ hR'
   obtain⟨us,k1,k2⟩:=sT hR'' hres
   have hmm:(fn.results.mapM (jC a'.tmps)).run P w'= .ok us.toArray w':=by
    rw[<-ZY (xs:=fn.results),List.mapM_toArray]
    simp only[Sem.run_map,k1]
    rfl
   have hrr:results fn a'.tmps=(fn.results.mapM (jC a'.tmps))>>= λvs=>pure (if h:vs.size=1 then vs[0] else .tuple vs):=rfl
   have hv:∃v,(results fn a'.tmps).run P w'= .ok v w'/\cvT E'' w' out v:=by
    subst ho
    match vs,us,k2 with
    |[],[],_=>exact⟨.tuple #[],by simp_all,#[],rfl,θ⟩
    |[v],[u],k2=>exact⟨u,by simp_all,k2.1⟩
    |v1::v2::vs,u1::u2::us,k2=>exact⟨.tuple (u1::u2::us).toArray,by simp_all,_,rfl,k2⟩
   obtain⟨v,q1,q2⟩:=hv
   exact⟨hR''.dfr,v,q1,v,E'',rfl,hR''.ok,q2,λl y h=>hR''.obs l y (EW hys h)⟩
  cases e with
  |normal=>exact fin hq
  |ret=>exact fin hq
  |_=>exact hq.elim
 have hent:(callFunc f vals).run P w= .ok (.enter f vals) w:=by simp[callFunc,hf,hb];simpa using hnm
 unfold Oper.wp
 have hrun:(execOp a.eval ⟨ς d,.call ⟨.value (.func f),args.toArray,tys⟩,ty,ps,af,gd⟩).run P w= .ok (.enter f vals) w:=by
  subst hvals
  simp only[execOp,resolve,Act.eval,Deferred.ofValue,Sem.run_bind,Sem.run_pure,Result.andThen_ok,invoke]
  simpa using hent
 rw[hrun,Oper.upon_enter]
 refine hcalls.mono ?_
 rintro e w' ⟨v,E',rfl,ok',hv,hobs⟩
 obtain⟨E3,hE3⟩:∃E3:Env,E3={E' with r:=λo=>match bQ (inv m') o with|some k=>E'.r k|none=>ξ,n:=λo=>match bQ (inv m') o with|some k=>E'.n k|none=>False,T:=λl b=>l<nx'/\E'.T l b}:=⟨_,rfl⟩
 have f_r:∀k o,bQ m' k=ς o->E3.r o=E'.r k:=λk o h=>by subst hE3;grind
 have f_n:∀k o,bQ m' k=ς o->(E3.n o↔E'.n k):=λk o h=>by subst hE3;grind
 have f_r':∀o p,E3.r o=ς p->∃k,bQ m' k=ς o/\E'.r k=ς p:=λo p h=>by
  subst hE3
  grind
 have f_F:E3.F=E'.F:=by subst hE3;rfl
 have f_G:E3.G=E'.G:=by subst hE3;rfl
 have f_T:∀l b,E3.T l b↔l<nx'/\E'.T l b:=λl b=>by subst hE3;exact Iff.rfl
 have f_Z:E3.Z=E'.Z:=by subst hE3;rfl
 have f_H:∀(g:Bool),E3.H g=E'.H g:=λg=>by cases g;exact f_F;exact f_G
 have hpin:∀k o p,rsp k=ζ->(k,o)∈m->E'.r k=ς p->E.r o=ς p:=λk o p hk hm hp=>by
  have h1:E2.r k=ς p:=ok'.pin k p hk hp
  rwa [e_r k o (dX ndm1 hm)] at h1
 have ok3:cF cx E3 w':=by
  refine⟨by rw[f_F];exact ok'.fb,by rw[f_F,f_G];exact ok'.gf,by rw[f_G];exact ok'.gn,λo b c h=>?_,λo o' b c c' h h'=>?_,ok'.os,ok'.tape,ok'.output,ok'.size,ok'.block,λo p ho h=>?_,by rw[f_F];exact ok'.ff,by rw[f_F];exact ok'.gc,⟨λl b h=>?_,λl l' b h h'=>ok'.sf.tt l l' b ((f_T _ _).1 h).2 ((f_T _ _).1 h').2,λb h=>?_,ok'.sf.zs,by rw[f_Z];exact ok'.sf.ze⟩⟩
  .obtain⟨k,h1,h2⟩:=f_r' o _ h
   obtain⟨h3,h4⟩:=ok'.rb k b c h2
   refine⟨h3,?_⟩
   rcases(hm6 _ (cp h1)).2 with⟨q1,q2⟩|⟨q1,q2⟩
   .exact(ok.rb o b c (hpin k o _ q1 (FH q2) h2)).2
   exact h4.imp id λh=>by have q1:rsv k=false:=q1;rw[q1] at h;exact absurd h.2 (by decide)
  .obtain⟨k,h1,h2⟩:=f_r' o _ h
   obtain⟨k',h1',h2'⟩:=f_r' o' _ h'
   have:=ok'.inj k k' b c c' h2 h2';grind
  .obtain⟨k,h1,h2⟩:=f_r' o _ h
   rcases(hm6 _ (cp h1)).2 with⟨q1,q2⟩|⟨q1,q2⟩
   .exact ok.pin o p ho (hpin k o _ q1 (FH q2) h2)
   rw[mn q2] at ho;cases ho
  .obtain⟨_,h⟩:=(f_T _ _).1 h
   obtain⟨h1,h2,h3,h4⟩:=ok'.sf.tb l b h
   exact⟨h1,by rw[f_F];exact h2,λo c ho=>(f_r' o _ ho).elim λk h=>h3 k c h.2,h4⟩
  obtain⟨h1,h2,h3,h4⟩:=ok'.sf.zc b h
  grind
 have hout:∀c c' u,rlC m' c=ς c'->cvC E' w' c u->cvC E3 w' c' u:=by
  intro c c' u h hc
  cases c with
  |d g x=>cases g<;>cases h;rename_i g;exact bP (F:=E'.H g) (λ_ _=>rfl) (λb hb=>by rw[f_H];exact hb) _ _ hc
  |nil=>cases h;exact hc
  |any=>cases h;trivial
  |fn f=>cases h;exact hc
  |w l n=>
   simp only[rlC] at h
   split at h
   .rename_i k h1;cases h
    obtain⟨b,cc,q1,q2⟩:=hc
    exact⟨b,cc,(f_r l k h1).trans q1,q2⟩
   cases h
  |wn l n=>
   simp only[rlC] at h
   split at h
   .rename_i k h1;cases h
    rcases hc with⟨q0,q1⟩|⟨q0,b,cc,q1,q2⟩
    .exact .inl ⟨(f_n l k h1).2 q0,q1⟩
    exact .inr ⟨λq=>q0 ((f_n l k h1).1 q),b,cc,(f_r l k h1).trans q1,q2⟩
   cases h
  |p l n=>
   simp only[rlC] at h
   split at h
   .rename_i k h1;cases h
    obtain⟨b,cc,q1,q2⟩:=hc
    exact⟨b,cc,(f_r l k h1).trans q1,q2⟩
   cases h
  |s l x y z=>
   simp only[rlC] at h
   split at h
   .rename_i k h1;cases h
    obtain⟨A,q,b,cc,q1,q2⟩:=hc
    exact⟨A,q,b,cc,(f_r l k h1).trans q1,q2⟩
   cases h
  |_=>cases h
 have hinj':∀a a' b,bQ m' a=ς b->bQ m' a'=ς b->a=a':=λa a' b h h'=>by
  grind
 refine⟨E3,ok3,λo p h=>?_,λo y h=>?_,λk=>?_,hR.dfr,by simpa [Act.put] using hR.size,λl b h=>((f_T _ _).1 h).1⟩
 .obtain⟨k,h1,_⟩:=f_r' o p h
  exact bO (hm6 _ (cp h1)).1
 .obtain⟨k,y0,h1,h2,h3⟩:=Mr hinj' hy h
  refine Mq h3 hout (λp hp=>(f_r k o h1).trans hp) (f_n k o h1) (λg b hb=>by rw[f_H];exact hb) (λb hb=>by grind) (λj z e b hb=>(f_T _ _).2 ⟨Bb hj (e▸h2),hb⟩) (hobs k y0 h2)
 show cvT E3 w' (gt ((d,out')::kpS (pinned m) sl) k) ((a.put (ς d) v).tmps.getD k undef)
 rw[eK (by rw[hR.size];exact bO hd)]
 by_cases hk:d=k
 .subst hk;rw[cG,if_pos rfl];exact vS hout ho hv
 rw[b7 _ _ hk,if_neg hk,Ro]
 have h0:=hR.sl k
 simp only at h0
 cases hg:gt sl k with
 |tup ts=>trivial
 |any=>trivial
 |v vv=>
  cases vv with
  |agg cs=>trivial
  |c c=>
   rw[hg] at h0
   have h0:cvC E w c (a.tmps.getD k undef):=h0
   show cvC E3 w' (kpC (pinned m) c) _
   cases c with
   |p o j=>
    simp only[kpC]
    split
    .rename_i k' h1
     have hmem:=cp h1
     simp only[pinned,Z9,List.mem_filter,Prod.mk.injEq] at hmem
     obtain⟨⟨p1,p2⟩,⟨hp1,hp2⟩,hp3,hp4⟩:=hmem
     simp only at hp2 hp3 hp4
     subst hp3;subst hp4
     obtain⟨b,cc,q1,q2⟩:=h0
     have hh:=(hm5 _ hp1).2
     rcases hh with hh|⟨hh1,hh2⟩
     .grind
     split at hh2
     .rename_i t cs hgo
      obtain⟨b',c',arr,r1,_⟩:=hobs _ _ hgo
      have r2:=hpin _ _ _ hp2 hp1 r1
      rw[q1] at r2
      have r3:=f_r _ _ (dX ndm3 (FH hh1))
      exact⟨b,cc,by grind,q2⟩
     cases hh2
    trivial
   |d g x=>
    cases x<;>first|trivial|(replace h0:=sv h0;simp only[kpC,cvC,gD,rdD] at h0 ⊢;exact h0)
   |_=>trivial
section
variable{P:Program}{N:Nat}{d:Tmp}{tt:TypeId}{ps:String}{af:Array Edge}{gd:Option (Nat×Bool)}{x y:Operand}{sl sl1 sl2:Lab}{ob ob1:Laa}{nx:Nat}
theorem olh{o:Nat}{nt:TypeId}{els:List (Int×List Int)}{A:Option Addr}{e:Int×List Int}[g8 P t](he:els[i]?=ς e)(hx:opT sl x= .v (.c (.e o 2 i 1)))(ho:go ob o=ς (.cxo o ty nt els (ς (i,A,n,k))))(hN:nlt d N=ζ):
 NS0 P N ⟨ς d,.load t x,tt,ps,af,gd⟩ sl ob nx d (.v (.c (.d η (.k A n k)))) ⟨d,[(x,.v (.c (.e o 2 i 1)))],[(o,.cxo o ty nt els (ς (i,A,n,k)))],.v (.c (.d η (.k A n k))),[]⟩:=c9 (st:=⟨sl,ob,nx⟩) (H8 he) rfl hN ⟨hx,θ⟩ ⟨ho,θ⟩ rfl
theorem olx{o:Nat}{nt:TypeId}{els:List (Int×List Int)}{e:Int×List Int}[g8 P t](he:els[i]?=ς e)(hx:opT sl x= .v (.c (.e o 2 i 1)))(ho:go ob o=ς (.cxo o ty nt els ξ))(hN:nlt d N=ζ):
 NS0 P N ⟨ς d,.load t x,tt,ps,af,gd⟩ sl ob nx d (.v (.c (.r o (.l (e.2.map eI))))) ⟨d,[(x,.v (.c (.e o 2 i 1)))],[(o,.cxo o ty nt els ξ)],.v (.c (.r o (.l (e.2.map eI)))),[]⟩:=c9 (st:=⟨sl,ob,nx⟩) (Om he rfl) rfl hN ⟨hx,θ⟩ ⟨ho,θ⟩ rfl
theorem Uz{o:Oper}{needs:List (Operand×T)}{nw:Laa}(h:AWN P o needs nob out nw)(ho:∀E w v,cvT E w out v->cvT E w out' v):AWN P o needs nob out' nw:=by
 intro cx E a w ok hn hb hf
 refine Oper.wp_mono ?_ (h cx E a w ok hn hb hf)
 grind
def nkC:C->C
 | .nil=>.d η (.k ξ 0 0)
 |c=>c
def Ya:List C->List C
 |[]=>[]
 |c::cs=>nkC c::Ya cs
theorem X9{c:C}(h:cvC E w c u):cvC E w (nkC c) u:=by
 cases c with
 |nil=>have h:u= .slice ξ 0 0:=h;subst h;rfl
 |_=>exact h
theorem Mt{E:Env}{w:World}:∀{cs:List C} {us:Lae},CV E w cs us->CV E w (Ya cs) us
 |[],[],_=>trivial
 |c::cs,u::us,h=>⟨X9 h.1,Mt h.2⟩
 |[],_::_,h=>h.elim
 |_::_,[],h=>h.elim
theorem bdk{zs cs':List C}{pl:Lac}{parts:List (Nat×Operand)}{vs:List V}[TyZ P t zs][TyB P t pl](hv:Kn sl (parts.map (·.2))=ς vs)(h:Bo pl zs ((parts.map (·.1)).zip vs)=ς cs)(hk:Ya cs=cs')(hN:nlt d N=ζ):
 NS0 P N ⟨ς d,.build t parts.toArray,tt,ps,af,gd⟩ sl ob nx d (.v (.agg cs')) ⟨d,(parts.map (·.2)).zip (vs.map T.v),[],.v (.agg cs'),[]⟩:=by
 subst hk
 obtain⟨h1,h2⟩:=AT hv
 exact c9 (st:=⟨sl,ob,nx⟩) (Uz (Ms (by simp_all) h) (λE w v ⟨arr,hu,hc⟩=>⟨arr,hu,Mt hc⟩)) rfl hN h2 trivial rfl
def Xu(a:Int):List D:=[.i .i64 a,.k ξ 0 0]
end
def fzC(nw:Laa):C->Option (RC×Lac)
 | .d _ (.i k n)=>ς (.d (.i k n),[])
 | .d _ (.b x)=>ς (.d (.b x),[])
 | .d _ (.str s)=>ς (.d (.str s),[])
 | .d ζ (.l xs)=>ς (.d (.l xs),[])
 | .wn l n=>match go nw l with
  |some (.rown _ _ els ζ)=>ς (.d (.l els),[(els.length,n)])
  |_=>ξ
 | .w l n=>match go nw l with
  |some (.row _ _ els ζ ζ)=>ς (.d (.l els),[(els.length,n)])
  |_=>ξ
 |_=>ξ
def QP(nw:Laa):List C->Option (List RC×Lac)
 |[]=>ς ([],[])
 |c::cs=>match fzC nw c,QP nw cs with
  |some (r,e),ς (rs,es)=>ς (r::rs,e++es)
  |_,_=>ξ
def fzV(nw:Laa):V->Option (RV×Lac)
 | .c c=>match fzC nw c with
  |some (r,e)=>ς (.c r,e)
  |none=>ξ
 | .agg cs=>match QP nw cs with
  |some (r,e)=>ς (.agg r,e)
  |none=>ξ
def J3(nw:Laa):List V->Option (List RV×Lac)
 |[]=>ς ([],[])
 |c::cs=>match fzV nw c,J3 nw cs with
  |some (r,e),ς (rs,es)=>ς (r::rs,e++es)
  |_,_=>ξ
def fzT(nw:Laa):T->Option (List RV×Lac)
 | .v v=>match fzV nw v with
  |some (r,e)=>ς ([r],e)
  |none=>ξ
 | .tup (a::b::vs)=>J3 nw (a::b::vs)
 |_=>ξ
section
variable{nw:Laa}{E:Env}{w:World}{G:Nat->Prop}{base:Nat}(hG:∀b,E.G b->G b)(hN:∀l y,go nw l=ς y->cg E w l y)(hb:∀l y b c,go nw l=ς y->E.r l=ς (b,c)->eJ w b->G b)
include hG hN hb
theorem QO{c:C}{r:RC}{e:Lac}(h:fzC nw c=ς (r,e))(he:Eqs e)(hc:cvC E w c u):rcR w G base r u []:=by
 cases c with
 |d g x=>
  cases x with
  |i k n=>simp[fzC] at h;obtain⟨rfl,rfl⟩:=h;exact⟨rfl,by simpa [rdD] using p4 hc⟩
  |b n=>simp[fzC] at h;obtain⟨rfl,rfl⟩:=h;exact⟨rfl,by simpa [rdD] using p4 hc⟩
  |str n=>simp[fzC] at h;obtain⟨rfl,rfl⟩:=h;exact⟨rfl,by simpa [rdD] using p4 hc⟩
  |k A n c'=>simp[fzC] at h
  |l xs=>
   cases g with
   |s n=>simp[fzC] at h
   |t n=>simp[fzC] at h
   |b g=>cases g with
    |false=>simp[fzC] at h
    |true=>simp[fzC] at h;obtain⟨rfl,rfl⟩:=h;exact⟨rfl,bP (λ_ _=>rfl) hG _ _ hc⟩
 |wn l n=>
  simp only[fzC] at h
  split at h
  .rename_i ty sz els hg
   simp at h;obtain⟨rfl,rfl⟩:=h
   have hn:els.length=n:=he.1
   rcases hc with⟨h0,h1,h2⟩|⟨h0,b,c,h1,h2⟩
   .subst h2;subst hn
    have:els=[]:=ZS h1
    subst this
    exact⟨rfl,ξ,0,rfl,Zu _,.inl rfl⟩
   rcases hN l _ hg with⟨k0,_⟩|⟨_,b',c',arr,k1,k2,k3,k4,k5,k6,k7,k8⟩
   .simp_all
   rw[h1] at k1;cases k1
   exact⟨rfl,ς ⟨b,0,ξ⟩,c,by simp_all,k4,.inr ⟨b,0,rfl,hb l _ b c hg h1 (.mk k2),bS (λ_ _=>rfl) hG rfl _ _ k7⟩⟩
  cases h
 |w l n=>
  simp only[fzC] at h
  split at h
  .rename_i ty sz els hg
   simp at h;obtain⟨rfl,rfl⟩:=h
   have hn:els.length=n:=he.1
   obtain⟨b,c,h1,h2⟩:=hc
   obtain⟨b',c',arr,k1,k2,k3,k4,k5,k6,k7,k8,_⟩:=hN l _ hg
   rw[h1] at k1;cases k1
   exact⟨rfl,ς ⟨b,0,ξ⟩,c,by simp_all,k4,.inr ⟨b,0,rfl,hb l _ b c hg h1 (.mk k2),bS (λ_ _=>rfl) hG rfl _ _ k7⟩⟩
  cases h
 |_=>simp[fzC] at h
theorem LW:∀{cs:List C} {rs:List RC} {e:Lac} {us:Lae},QP nw cs=ς (rs,e)->Eqs e->CV E w cs us->Ci w G base rs us []
 |[],rs,e,us,h,he,hc=>by
  simp[QP] at h;obtain⟨rfl,rfl⟩:=h
  cases us with
  |nil=>rfl
  |cons _ _=>exact hc.elim
 |c::cs,rs,e,us,h,he,hc=>by
  simp only[QP] at h
  split at h
  .rename_i r e1 rs' e2 h1 h2
   simp at h;obtain⟨rfl,rfl⟩:=h
   obtain⟨g1,g2⟩:=dq he
   cases us with
   |nil=>exact hc.elim
   |cons u us=>exact⟨[],[],rfl,QO hG hN hb h1 g1 hc.1,LW h2 g2 hc.2⟩
  cases h
theorem QT{v:V}{r:RV}{e:Lac}(h:fzV nw v=ς (r,e))(he:Eqs e)(hc:cvV E w v u):rvR w G base r u []:=by
 cases v with
 |c c=>
  simp only[fzV] at h
  split at h
  .rename_i r' e' h1;simp at h;obtain⟨rfl,rfl⟩:=h;exact QO hG hN hb h1 he hc
  cases h
 |agg cs=>
  simp only[fzV] at h
  split at h
  .rename_i r' e' h1;simp at h;obtain⟨rfl,rfl⟩:=h
   obtain⟨arr,hu,hc⟩:=hc
   exact⟨arr,hu,LW hG hN hb h1 he hc⟩
  cases h
theorem LZ:∀{cs:List V} {rs:List RV} {e:Lac} {us:Lae},J3 nw cs=ς (rs,e)->Eqs e->VV E w cs us->zY w G base rs us []
 |[],rs,e,us,h,he,hc=>by
  simp[J3] at h;obtain⟨rfl,rfl⟩:=h
  cases us with
  |nil=>rfl
  |cons _ _=>exact hc.elim
 |c::cs,rs,e,us,h,he,hc=>by
  simp only[J3] at h
  split at h
  .rename_i r e1 rs' e2 h1 h2
   simp at h;obtain⟨rfl,rfl⟩:=h
   obtain⟨g1,g2⟩:=dq he
   cases us with
   |nil=>exact hc.elim
   |cons u us=>exact⟨[],[],rfl,QT hG hN hb h1 g1 hc.1,LZ h2 g2 hc.2⟩
  cases h
theorem XB{t:T}{rs:List RV}{e:Lac}(h:fzT nw t=ς (rs,e))(he:Eqs e)(hc:cvT E w t u):wv w G base rs u []:=by
 cases t with
 |v v=>
  simp only[fzT] at h
  split at h
  .rename_i r' e' h1;simp at h;obtain⟨rfl,rfl⟩:=h;exact QT hG hN hb h1 he hc
  cases h
 |any=>cases h
 |tup ts=>
  match ts,h,hc with
  |[],h,_=>cases h
  |[_],h,_=>cases h
  |a::b::vs,h,hc=>
   obtain⟨arr,hu,hc⟩:=hc
   have h:J3 nw (a::b::vs)=ς (rs,e):=h
   have key:=LZ hG hN hb (base:=base) h he hc
   have hlen:∃x y zs,rs=x::y::zs:=by
    simp only[J3] at h
    split at h
    .grind
    cases h
   obtain⟨x,y,zs,rfl⟩:=hlen
   exact⟨arr,hu,key⟩
end
def Mw:Laa->Bool
 |[]=>ζ
 |(l,_)::r=>!rsv l&&Mw r
theorem Ic{l:Nat}{y:Ob}:∀{nw:Laa},Mw nw=ζ->go nw l=ς y->rsv l=η
 |[],_,h=>by cases h
 |(k,z)::r,h0,h=>by
  simp only[Mw,hV,ZD] at h0
  by_cases e:k=l
  .simp_all
  rw[a9 _ _ e] at h;exact Ic h0.2 h
theorem FnV.frzW{t':TypeId}{cs':List C}{args:List T}{nw:Laa}{res:List RV}{e:Lac}(h:FnV P f [(200,.var t cs)] args [(200,.var t' cs')] out nw)(hf:cs'.all C.free=ζ)(hz:fzT nw out=ς (res,e))(he:Eqs e)(hn:Mw nw=ζ):
 FnW P f (.var t cs) args (.var t' cs') res:=by
 refine⟨h.enters,λF w vals b c hF hb hT hs hx hA=>?_⟩
 have hbF:¬F b:=by
  obtain⟨b',c',arr,k1,k2,k3,k4⟩:=hx
  simp[E0] at k1;obtain⟨rfl,rfl⟩:=k1
  exact k4
 have hr0:∀o p,(E0 b c F).r o=ς p↔o=200/\p=(b,c):=λo p=>by
  show(if o=200 then ς (b,c) else ξ)=ς p↔_
  grind
 have hI:VIn (E0 b c F) w:=⟨hF,λ_ h=>h.elim,λo b' c' h=>by
  obtain⟨rfl,e⟩:=(hr0 _ _).1 h;cases e;exact⟨hb,rfl,hbF⟩,λo o' b' c1 c2 h h'=>by simp_all,λ_ _ h=>h.elim,λ_ _ _ h=>h.elim,λ_ _ _ h=>h,λ_ h=>h⟩
 refine(h.calls (E0 b c F) w vals hI hT (λk hk o c' h=>by simp_all) (λl x h=>?_) hA).mono ?_
 .by_cases el:200=l
  .subst el;rw[bM] at h;simp_all
  rw[a9 _ _ el] at h;cases h
 rintro en w' ⟨v,E',hen,vo,hv,hys,hnw⟩
 refine⟨v,λk=>(E'.F k/\w.heap.size<=k)\/(w.heap.size<=k/\k<w'.heap.size/\eJ w' k/\∃l y c,go nw l=ς y/\E'.r l=ς (k,c)),[],hen,⟨vo.past.os,vo.past.tape,vo.past.output,vo.past.size,λk hk hW=>vo.past.block k hk (λh=>h.elim (λ⟨o,c',ho⟩=>hW (by simp_all)) (λ⟨_,h⟩=>h))⟩,λk hk=>?_,?_,by simp,?_⟩
 .rcases hk with⟨h1,h2⟩|⟨h1,h2,h3,_⟩
  .refine⟨h2,vo.fb k h1,?_⟩
   rcases vo.f0 k h1 with h|h
   .have:=hF k h;omega
   exact h.2
  simp_all
 .refine XB (λk hk=>.inl ⟨vo.gf k hk,(vo.g0 k hk).resolve_right (λh=>h.elim (λh=>h) (λ⟨_,h⟩=>h))⟩) hnw (λl y k c' hg hr hp=>?_) hz he hv
  obtain⟨q1,q2⟩:=vo.rb l k c' hr
  exact .inr ⟨(q2.resolve_right (λq=>by rw[Ic hn hg] at q;cases q.2)).resolve_right (λ⟨_,h⟩=>h),q1,hp,l,y,c',hg,hr⟩
 obtain⟨b',c',arr,k1,k2,k3,k4⟩:=hys 200 _ (bM _ _ _)
 have hp:=vo.pin 200 _ rfl k1
 obtain⟨_,ep⟩:=(hr0 _ _).1 hp;cases ep
 refine⟨b,c,arr,by simp[E1],k2,EO (E:=E') (λg k hk=>?_) (λ_ _ _=>rfl) hf k3,?_⟩
 .have hFk:∀k,E'.F k->F k\/(E'.F k/\w.heap.size<=k):=λk hk=>(vo.f0 k hk).imp id (λh=>⟨hk,h.1.resolve_right (λ⟨_,h⟩=>h)⟩)
  cases g with
  |false=>
   show F k\/_
   rcases hFk k hk with h|h
   .exact .inl h
   simp_all
  |true=>
   exact .inl ⟨vo.gf k hk,(vo.g0 k hk).resolve_right (λh=>h.elim (λh=>h) (λ⟨_,h⟩=>h))⟩
 rintro(h1|⟨h1,h2⟩|⟨h1,_⟩)
 .exact hbF h1
 .omega
 omega
def upC:C->C
 | .d η (.l xs)=>.d ζ (.l xs)
 |c=>c
def Y6:List C->List C
 |[]=>[]
 |c::cs=>upC c::Y6 cs
def upV:V->V
 | .c c=>.c (upC c)
 | .agg cs=>.agg (Y6 cs)
def Y8:List V->List V
 |[]=>[]
 |c::cs=>upV c::Y8 cs
def upT:T->T
 | .v v=>.v (upV v)
 | .tup vs=>.tup (Y8 vs)
 | .any=>.any
section
variable{E E':Env}{w:World}(hr:∀o p,E.r o=ς p->E'.r o=ς p)(hn:∀o,E'.n o↔E.n o)(hF:∀b,E.F b->E'.F b)(hG:∀b,E.G b->E'.G b)(hFG:∀b,E.F b->E'.G b)(hT:E'.T=E.T)(hZ:E'.Z=E.Z)
include hr hn hF hG hFG hT hZ
theorem TC{c:C}(h:cvC E w c u):cvC E' w (upC c) u:=by
 have kp:gb E w E' w\/True:=.inr trivial
 cases c with
 |d g x=>
  cases g with
  |s n=>exact(by show rdD w (E'.T n) x u;rw[hT];exact h:cvC E' w (.d (.s n) x) u)
  |t n=>exact(eT.keep h (λ_ _=>rfl) (λb hb=>by rw[hT];exact hb):cvC E' w (.d (.t n) x) u)
  |b g=>cases g with
   |false=>
    cases x with
    |l xs=>exact bP (λ_ _=>rfl) hFG _ _ h
    |i k n=>exact bP (λ_ _=>rfl) hF _ _ h
    |b n=>exact bP (λ_ _=>rfl) hF _ _ h
    |str n=>exact bP (λ_ _=>rfl) hF _ _ h
    |k A n c=>exact bP (λ_ _=>rfl) hF _ _ h
   |true=>exact bP (λ_ _=>rfl) hG _ _ h
 |w o n=>obtain⟨b,c,h1,h2⟩:=h;exact⟨b,c,hr _ _ h1,h2⟩
 |s o sz off len=>obtain⟨A,c,b,k,h1,h2⟩:=h;exact⟨A,c,b,k,hr _ _ h1,h2⟩
 |p o k=>obtain⟨b,c,h1,h2⟩:=h;exact⟨b,c,hr _ _ h1,h2⟩
 |e o sz i j=>obtain⟨b,c,h1,h2⟩:=h;exact⟨b,c,hr _ _ h1,h2⟩
 |q g y j=>
  obtain⟨b,k,h1,h2,h3⟩:=h
  have hHH:∀b,E.H g b->E'.H g b:=λb hb=>by
   cases g with
   |s n=>show E'.T n b;rw[hT];exact hb
   |t n=>show E'.T n b;rw[hT];exact hb
   |b g=>cases g with
    |false=>exact hF b hb
    |true=>exact hG b hb
  exact⟨b,k,h1,hHH b h2,rdL_mono (λ_ _=>rfl) hHH _ _ _ h2 h3⟩
 |fn f=>exact h
 |nil=>exact h
 |any=>trivial
 |r l x=>exact bP (λ_ _=>rfl) (λb hb=>by simp_all) _ _ h
 |z x=>exact qy (λ_ _=>oH.refl _ _) (λb hb=>by simp_all) _ _ h
 |zq y j=>obtain⟨b,k,h1,h2,h3⟩:=h;exact⟨b,k,h1,by simp_all,rsL_mono (λ_ _=>oH.refl _ _) (λb hb=>by simp_all) _ _ _ h2 h3⟩
 |wn o n=>
  rcases h with⟨h1,h2⟩|⟨h1,b,c,h2,h3⟩
  .exact .inl ⟨(hn o).2 h1,h2⟩
  exact .inr ⟨λk=>h1 ((hn o).1 k),b,c,hr _ _ h2,h3⟩
theorem Nl:∀{cs:List C} {us:Lae},CV E w cs us->CV E' w (Y6 cs) us
 |[],[],_=>trivial
 |c::cs,u::us,h=>⟨TC hr hn hF hG hFG hT hZ h.1,Nl h.2⟩
 |[],_::_,h=>h.elim
 |_::_,[],h=>h.elim
theorem TD{v:V}(h:cvV E w v u):cvV E' w (upV v) u:=by
 cases v with
 |c c=>exact TC hr hn hF hG hFG hT hZ h
 |agg cs=>obtain⟨arr,hu,h⟩:=h;exact⟨arr,hu,Nl hr hn hF hG hFG hT hZ h⟩
theorem Nm:∀{cs:List V} {us:Lae},VV E w cs us->VV E' w (Y8 cs) us
 |[],[],_=>trivial
 |c::cs,u::us,h=>⟨TD hr hn hF hG hFG hT hZ h.1,Nm h.2⟩
 |[],_::_,h=>h.elim
 |_::_,[],h=>h.elim
theorem Y7{t:T}(h:cvT E w t u):cvT E' w (upT t) u:=by
 cases t with
 |v v=>exact TD hr hn hF hG hFG hT hZ h
 |tup vs=>obtain⟨arr,hu,h⟩:=h;exact⟨arr,hu,Nm hr hn hF hG hFG hT hZ h⟩
 |any=>trivial
end
def dnC:C->Option C
 | .d (.b ζ) (.l xs)=>ς (.d η (.l xs))
 | .d (.b g) (.i k n)=>ς (.d g (.i k n))
 | .d (.b g) (.b x)=>ς (.d g (.b x))
 | .d (.b g) (.str s)=>ς (.d g (.str s))
 | .nil=>ς .nil
 | .fn f=>ς (.fn f)
 |_=>ξ
theorem Xs(hG:∀b,E.G b->E'.F b){c c':C}(h:dnC c=ς c')(hc:cvC E w c u):cvC E' w c' u:=by
 cases c with
 |d g x=>
  cases g with
  |s n=>cases x<;>simp[dnC] at h
  |t n=>cases x<;>simp[dnC] at h
  |b g=>
   cases x with
   |l xs=>
    cases g with
    |false=>cases h
    |true=>cases h;exact bP (λ_ _=>rfl) hG _ _ hc
   |i k n=>cases g<;>(cases h;simpa [cvC,gD,rdD] using hc)
   |b n=>cases g<;>(cases h;simpa [cvC,gD,rdD] using hc)
   |str n=>cases g<;>(cases h;simpa [cvC,gD,rdD] using hc)
   |k A n c=>cases g<;>cases h
 |nil=>cases h;exact hc
 |fn f=>cases h;exact hc
 |_=>simp[dnC] at h
theorem PK{f:C->Option C}{E E':Env}{w w':World}(hf:∀c c' u,f c=ς c'->cvC E w c u->cvC E' w' c' u):∀{ts ts':List T} {us:Lae},og f ts=ς ts'->TV E w ts us->TV E' w' ts' us
 |[],ts',us,h,hv=>by
  simp[og] at h;subst h
  cases us with
  |nil=>trivial
  |cons _ _=>exact hv.elim
 |t::ts,ts',us,h,hv=>by
  simp only[og] at h
  split at h
  .rename_i h1 h2
   simp at h;subst h
   cases us with
   |nil=>exact hv.elim
   |cons u us=>exact⟨vS hf h1 hv.1,PK hf h2 hv.2⟩
  cases h
theorem FnV.up{args args':List T}{nw:Laa}(h:FnV P f [] args [] out nw)(ha:og dnC args'=ς args)(ho:upT out=out'):FnV P f [] args' [] out' nw:=by
 subst ho
 refine⟨h.enters,λE w vals hI ht hs hx hA=>?_⟩
 obtain⟨E0,hE0⟩:∃E0:Env,E0={E with F:=E.G}:=⟨_,rfl⟩
 have e_r:E0.r=E.r:=by subst hE0;rfl
 have e_F:E0.F=E.G:=by subst hE0;rfl
 have e_G:E0.G=E.G:=by subst hE0;rfl
 have e_T:E0.T=E.T:=by subst hE0;rfl
 have e_Z:E0.Z=E.Z:=by subst hE0;rfl
 have hI0:VIn E0 w:=⟨λb hb=>hI.fb b (hI.gf b (by simp_all)),λb hb=>by simp_all,λo b c hr=>by
  rw[e_r] at hr
  obtain⟨k1,k2,k3⟩:=hI.rb o b c hr
  exact⟨k1,k2,by rw[e_F];exact λhg=>k3 (hI.gf b hg)⟩,by rw[e_r];exact hI.inj,λl b hb=>by
  rw[e_T] at hb
  obtain⟨k1,k2,k3,k4⟩:=hI.T l b hb
  exact⟨k1,by rw[e_F];exact λhg=>k2 (hI.gf b hg),by rw[e_r];exact k3,k4⟩,by rw[e_T];exact hI.tt,by rw[e_T];exact hI.ts,by rw[e_Z];exact hI.Z⟩
 refine(h.calls E0 w vals hI0 ht (by simp_all) (λl x hg=>by cases hg) (PK (λc c' u hc hv=>Xs (λb hb=>by simp_all) hc hv) ha hA)).mono ?_
 rintro e w' ⟨v,E',he,vo,hv,_,hnw⟩
 have f0:∀b,E'.F b->E.G b\/((w.heap.size<=b\/∃l,E.T l b)/\eJ w' b):=λb hb=>by have:=vo.f0 b hb;simp_all
 have hr0:∀o b c,E'.r o=ς (b,c)->b<w'.heap.size/\((w.heap.size<=b\/∃l,E.T l b)\/((∃o' c',E.r o'=ς (b,c'))/\rsv o=ζ)):=λo b c hr=>by have:=vo.rb o b c hr;simp_all
 refine⟨v,{E' with F:=λb=>E'.F b\/E.F b,G:=E'.F},he,⟨by have:=vo.past;simp_all,λb hb=>hb.elim (vo.fb b) (λhb=>Zy (hI.fb b hb) vo.past.size),λb hb=>hb.elim (λhb=>(f0 b hb).imp (hI.gf b) id) .inl,λb hb=>.inr hb,λb hb=>vo.F b (by simp_all),λb hb=>.inl hb,λb hb=>(f0 b hb).elim (λk=>.inr (.inl k)) (λk=>k.1.imp id .inr),hr0,vo.inj,λo x ho hx'=>by have:=vo.pin o x ho hx';simp_all,λl b hb=>?_,vo.tt⟩,
  Y7 (E:=E') (E':={E' with F:=λb=>E'.F b\/E.F b,G:=E'.F}) (λ_ _ h=>h) (λ_=>Iff.rfl) (λb hb=>.inl hb) (λb hb=>vo.gf b hb) (λb hb=>hb) rfl rfl hv,λl y hg=>(by cases hg),λl y hg=>?_⟩
 .obtain⟨⟨k1,k2⟩,k3,k4,k5⟩:=vo.T l b hb
  rw[e_T] at k2
  exact⟨⟨k1,k2⟩,λh=>h.elim k3 (λh=>k2.elim (λk=>Nat.not_lt.2 k (hI.fb b h)) (λ⟨l',k⟩=>(hI.T l' b k).2.1 h)),k4,k5⟩
 have hk:gb E' w' {E' with F:=λb=>E'.F b\/E.F b,G:=E'.F} w':=⟨λ_ _ h=>h,λg b hb=>by cases g;exact .inl hb;exact vo.gf b hb,λ_ _ _=>rfl,λ_ _ h=>⟨h,rfl⟩,λ_ h=>⟨h,.refl _ _⟩,rfl⟩
 refine fy hk (λ_ _ _=>rfl) (λb c hr hn hF=>hF.elim hn (λhb=>?_)) (hnw l y hg)
 rcases(hr0 l b c hr).2 with(k|⟨l',k⟩)|⟨⟨o',c',k⟩,_⟩
 .have:=hI.fb b hb;omega
 .exact(hI.T l' b k).2.1 hb
 exact(hI.rb o' b c' k).2.2 hb
section
variable{P:Program}{d:Tmp}{ty:TypeId}{ps:String}{af:Array Edge}{gd:Option (Nat×Bool)}{x y:Operand}
theorem Di{t by_:Nat}{g2:Bool}{o:Nat}{rt:TypeId}{hi:Operand}[ht:da P t e sz by_](hn:els.length=n)(h0:0<=h)(h2:h<=n):
 AWN P ⟨ς d,.slice t x ξ (ς hi) ξ,ty,ps,af,gd⟩ [(x,.v (.c (.w o n))),(hi,.v (.c (.d g2 (.i .i64 h))))] [(o,.row rt sz els g m)] (.v (.c (.w o h.toNat))) []:=
 cf λE ac w hne hob=>by
  have k1:=hne x _ (.head _)
  have k3:=fZ (hne hi _ (.tail _ (.head _)))
  obtain⟨b,c,hr,hu⟩:=k1
  obtain⟨b',c',arr,hr',_,_,hlc,_⟩:=hob o _ (.head _)
  rw[hr] at hr';cases hr'
  obtain⟨i,z,hi1,hi2,_⟩:=ht.i
  obtain⟨he,hu'⟩:=vH ht.u
  refine⟨sliced (ς ⟨b,0,ξ⟩) 0 h.toNat c sz,?_,?_⟩
  .simp[execOp,hu,k3,run_sliceAt_slice w t _ _ _ _ hu',run_slice_h w t (ς ⟨b,0,ξ⟩) n c hu' .i64 h h0 oaa,he,d7 hi1,hi2]
  exact⟨b,c,hr,by simp[sliced,sm]⟩
theorem Fz{by_ o:Nat}{c:C}[ht:da P t e sz by_](hrv:rsv o=η)(ho:go nob o=ς (.row e sz els g ζ))(hs:Src nob c ys gy)(hn:n<=els.length)(hsz:∀e∈ys,e.length=sz)(hb:(n+ys.length)*by_<=140737488355328)(h63:n+ys.length<=9223372036854775807):
 AWK P ⟨ς d,.call ⟨.builtin .append,#[x,y],#[t,t]⟩,ty,ps,af,gd⟩ [(x,.v (.c (.w o n))),(y,.v (.c c))] nob (.v (.c (.w q (n+ys.length)))) [(q,.row e sz (els.take n++ys) (g&&gy) ζ)] [] (ς o):=by
 intro cx E a w ok hne hnob hfr
 have hob:∀l x,go nob l=ς x->cg E w l x:=λl x h=>hnob l x (uR h)
 obtain⟨hq1,hq2⟩:=hfr q _ (.head _)
 have h1:cvT E w (.v (.c (.w o n))) (a.eval x):=hne x _ (.head _)
 have h2:cvT E w (.v (.c c)) (a.eval y):=hne y _ (.tail _ (.head _))
 obtain⟨b,cc,hr,hu⟩:=h1
 obtain⟨b',c',arr,hr',hh,ha,hlc,hmx,hes,hrd,hFm,_⟩:=hob o _ ho
 rw[hr] at hr';cases hr'
 have hF:=hFm rfl
 have hesT:∀e'∈els.take n,e'.length=sz:=λe' he'=>hes e' (ZL he')
 have hrdT:=lH n hrd
 have hnT:(els.take n).length=n:=by simp;omega
 have hoq:o≠q:=λe=>by simp_all
 obtain⟨A,k,hv,hyk,hA⟩:=A3 hob hs h2
 obtain⟨ii,zz,i1,i2,i3,i4,i5⟩:=ht.i
 have hbl:=(ok.rb o b cc hr)
 have hown:w.ownsRow 0 e sz (.slice (ς ⟨b,0,ξ⟩) n cc) n (arr.toList.take (n*sz)):=
  ⟨by simp[ha];grind,.inr ⟨b,cc,arr,rfl,ZA _,hh,by omega,hmx,ha,rfl⟩⟩
 have hsrc:∃news:Lae,news.length=ys.length*sz/\(∀u∈news,u.oneCell'=ζ)/\(∀(j:Nat) (xd:D),ys.flatten[j]?=ς xd->∃u,news[j]?=ς u/\rdD w (E.H gy) xd u)/\
  ∃v' w',(Builtin.append_ #[t,t] ty #[.slice (ς ⟨b,0,ξ⟩) n cc,.slice A ys.length k]).run P w= .ok v' w'/\w'.ownsRow 0 e sz v' (n+ys.length) (arr.toList.take (n*sz)++news)/\w.grownBy w' (ς b)/\v'≠.slice ξ 0 0/\(v'.ownBlock=ς b\/v'.ownBlock=ς w.heap.size):=by
  have hgood:∀ad,A=ς ad->∀news:Lae,news.length=ys.length*sz->(∀(j:Nat) (u:Value),news[j]?=ς u->w.cell? (ad.add j)=ς u)->(∀u∈news,u.oneCell'=ζ)->
   ∃v' w',(Builtin.append_ #[t,t] ty #[.slice (ς ⟨b,0,ξ⟩) n cc,.slice A ys.length k]).run P w= .ok v' w'/\w'.ownsRow 0 e sz v' (n+ys.length) (arr.toList.take (n*sz)++news)/\w.grownBy w' (ς b)/\v'≠.slice ξ 0 0/\(v'.ownBlock=ς b\/v'.ownBlock=ς w.heap.size):=by
   intro ad hAd news n1 n2 n3
   obtain⟨v',w',r1,r2,r3,r4,r5⟩:=run_append_own_at (P:=P) w 0 t ty e ii zz sz by_ ht.u i1 i4 i2 i3 i5 ht.p _ n _ hown ad ys.length k news n1 n2 n3 (by unfold maxLen;omega) hb (ZA _)
   exact⟨v',w',by simp_all,r2,r3,(λh=>by simp_all),r5⟩
  rcases hA with h0|⟨b2,off,rfl,hrd2⟩
  .subst h0
   refine⟨[],by simp,by simp,by simp,?_⟩
   cases A with
   |none=>exact⟨_,w,qz w ht.u i1 hown k,by simp_all,⟨rfl,rfl,rfl,Zu _,λ_ _ _=>rfl⟩,by simp,.inl rfl⟩
   |some ad=>simp_all
  obtain⟨us,q1,q2,q3,q4⟩:=tc (eu.1 hrd2)
  exact⟨us,by rw[q1,eh hsz],q3,q4,hgood _ rfl us (by rw[q1,eh hsz]) q2 q3⟩
 obtain⟨news,n1,n2,n3,v',w',r1,r2,r3,r4,r5⟩:=hsrc
 obtain⟨_,r2⟩:=r2
 rcases r2 with⟨rfl,_⟩|⟨bn,cap,cur,rfl,_,hhn,hcap,hcapm,hcur,htk⟩
 .simp_all
 unfold Oper.wp
 simp only[execOp,resolve,invoke,builtin,Sem.run_bind,Sem.run_pure,Result.andThen_ok,aal,aac,aae,hu,hv,r1,Oper.upon_value]
 have hbn:bn=b\/bn=w.heap.size:=by simpa [Value.ownBlock] using r5
 have hsame:∀k,k<w.heap.size->k≠b->w'.heap[k]?=w.heap[k]?:=λk hk hne=>r3.block k hk (λe=>hne (by injection e))
 have hnF:¬E.F bn:=by
  rcases hbn with rfl|rfl
  .exact hF
  exact λh=>by have:=ok.fb _ h;omega
 have hbig:bn<w'.heap.size:=by
  rcases ZF bn w'.heap.size with h|h
  .exact h
  simp_all
 have hnew:∀l bl cl,l≠o->E.r l=ς (bl,cl)->bl≠bn:=by
  intro l bl cl hne hl e
  subst e
  rcases hbn with h|h
  .subst h;exact hne (ok.inj l o _ _ _ hl hr)
  have:=(ok.rb l bl cl hl).1;omega
 have hHb:∀(g:Bool) k,E.H g k->k≠b/\k<w.heap.size:=λg k hk=>⟨λe=>by subst e;cases g;exact hF hk;exact hF (ok.gf _ hk),ok.hb hk⟩
 have kH:∀(g:Bool) (k:Nat),E.H g k->w'.heap[k]?=w.heap[k]?:=λg k hk=>hsame k (hHb g k hk).2 (hHb g k hk).1
 have kI:∀(g:Bool) (k:Nat),E.H g k->(E.mv o q bn cap).H g k:=λ_ _ h=>h
 have hbnew:cx.In b:=by
  rcases hbl.2 with h|h
  .exact h
  simp_all
 have hmv:∀l bl cl,(E.mv o q bn cap).r l=ς (bl,cl)->(l=q/\bl=bn/\cl=cap)\/(l≠q/\l≠o/\E.r l=ς (bl,cl)):=by
  intro l bl cl hl
  simp only[Env.mv] at hl
  split at hl
  .simp_all
  simp_all
 refine⟨_,E.mv o q bn cap,rfl,⟨λk hk=>Zy (ok.fb k hk) r3.size,ok.gf,ok.gn,λl bl cl hl=>?_,λl l' bl cl cl' hl hl'=>?_,by rw[r3.os];exact ok.os,by rw[r3.tape];exact ok.tape,by rw[r3.output];exact ok.output,Zz ok.size r3.size,λk hk hW=>?_,λl xx hv hl=>?_,ok.ff,λk hk hk'=>(ok.gc k hk hk').of_eq (hsame k (hHb η k hk).2 (hHb η k hk).1),ok.sf.turn hr rfl rfl (λ_ h=>.inl h) (λl bl cl hl=>?_) r3.size hsame⟩,
  ⟨λl xx hl hlr=>?_,λ_ h=>h,λ_ h=>h,λ_ h=>.inl h,λk hk _ hkl=>hsame k hk (λe=>hkl o cc rfl (e▸hr)),(λ_ _ _ _ h=>by cases h),λl bl cl hl hlr=>?_,λ_ _ h=>h,λ_ _ h=>.inl h,rfl,rfl⟩,⟨bn,cap,by simp[Env.mv],rfl⟩,λl ob hm=>?_,(λ_ _ h=>by cases h),λl xx hl=>?_⟩
 .rcases hmv l bl cl hl with⟨_,rfl,rfl⟩|⟨_,_,hl⟩
  .refine⟨hbig,.inl ?_⟩
   rcases hbn with h|h
   .rw[h];exact hbnew
   exact .inl (by have:=ok.size;omega)
  have:=ok.rb l bl cl hl;exact⟨Zy this.1 r3.size,this.2⟩
 .rcases hmv l bl cl hl with⟨h1,h2,h3⟩|⟨h1,h2,h3⟩<;>rcases hmv l' bl cl' hl' with⟨k1,k2,k3⟩|⟨k1,k2,k3⟩
  .omega
  .grind
  .grind
  exact ok.inj l l' bl cl cl' h3 k3
 .rw[hsame k (by have:=ok.size;omega) (λe=>by subst e;exact hbnew.nw.elim (λ_=>by omega) hW)];exact ok.block k hk hW
 .obtain⟨bl,cl⟩:=xx
  rcases hmv l bl cl hl with⟨rfl,_⟩|⟨_,_,hl⟩
  .rw[mn hq2] at hv;cases hv
  exact ok.pin l _ hv hl
 .grind
 .simp only[Env.mv]
  grind
 .grind
 .simp at hm;obtain⟨rfl,rfl⟩:=hm
  have hall:∀e'∈els.take n++ys,e'.length=sz:=λe' he'=>by
   grind
  refine⟨bn,cap,cur,by simp[Env.mv],hhn,hcur,by simp;omega,hcapm,hall,?_,λ_=>hnF,(λh=>by cases h),θ⟩
  rw[eu]
  refine lA λj xd hj=>?_
  rw[Zs,dw hhn]
  rw[aah] at hj
  have hfl:(els.take n).flatten.length=n*sz:=by rw[eh hesT,hnT]
  have hxs:(arr.toList.take (n*sz)).length=n*sz:=by simp[ha];rw[aag oaa]
  have hcurj:∀u,(arr.toList.take (n*sz)++news)[j]?=ς u->cur[j]?=ς u:=by
   intro u hu
   rw[<-htk,ZQ] at hu
   split at hu
   .simp_all
   cases hu
  by_cases hjn:j<n*sz
  .rw[Zt oaa] at hj
   obtain⟨u,u1,u2⟩:=iA (eu.1 hrdT) hj
   rw[Zs,dw hh] at u1
   refine⟨u,hcurj u ?_,bP (kH _) (kI _) _ _ (mX ok u2 (by simp_all))⟩
   grind
  rw[Zr oaa,hfl] at hj
  obtain⟨u,u1,u2⟩:=n3 _ _ hj
  refine⟨u,hcurj u ?_,bP (kH _) (kI _) _ _ (mX ok u2 (by simp))⟩
  rw[Zr oaa,hxs]
  exact u1
 grind
end
section
variable{P:Program}{N:Nat}{d:Tmp}{ty:TypeId}{ps:String}{af:Array Edge}{gd:Option (Nat×Bool)}{x y:Operand}{sl:Lab}{ob:Laa}{nx:Nat}{α:Type}{enc:α->List D}
theorem cwfT{t by_:Nat}{g2:Bool}{o:Nat}{ys:List α}{rt:TypeId}{hi:Operand}[ht:da P t e sz by_](H:fH ys 0 h=ζ)(hn:ys.length=n)(hx:opT sl x= .v (.c (.w o n)))(ho:go ob o=ς (.row rt sz (ys.map enc) g m))(hh:opT sl hi= .v (.c (.d g2 (.i .i64 h))))(hN:nlt d N=ζ):
 NS0 P N ⟨ς d,.slice t x ξ (ς hi) ξ,ty,ps,af,gd⟩ sl ob nx d (.v (.c (.w o h.toNat))) ⟨d,[(x,.v (.c (.w o n))),(hi,.v (.c (.d g2 (.i .i64 h))))],[(o,.row rt sz (ys.map enc) g m)],.v (.c (.w o h.toNat)),[]⟩:=by
 simp only[fH,decide_eq_true_eq] at H
 exact c9 (st:=⟨sl,ob,nx⟩) (Di (by simp_all) H.2.1 oaa) rfl hN ⟨hx,hh,θ⟩ ⟨ho,θ⟩ rfl
theorem apxP{by_ o:Nat}{ys zs:List α}{gg:Bool}{c:C}(ls:List Nat)[da P t e sz by_](H0:fH ys 0 h=ζ)(H:cW by_ (ys.take h.toNat++zs).length=ζ)(hzd:zs.map enc=zd)(henc:∀a,(enc a).length=sz)(hp:oi ob ls=ς nob)(hs:Src nob c zd gy)(hd:nlt d N=ζ)(hx:opT sl x= .v (.c (.w o h.toNat)))(hy:opT sl y= .v (.c c))(ho:go nob o=ς (.row e sz (ys.map enc) g ζ))(hg:(g&&gy)=gg)(hrv:rsv o=η)(hnx:nxt nx=ς nx'):
 NX P N ⟨ς d,.call ⟨.builtin .append,#[x,y],#[t,t]⟩,ty,ps,af,gd⟩ ⟨sl,ob,nx⟩ ⟨(d,.v (.c (.w nx (ys.take h.toNat++zs).length)))::sl,(nx,.row e sz ((ys.take h.toNat++zs).map enc) gg ζ)::ob,nx'⟩
  ⟨⟨d,[(x,.v (.c (.w o h.toNat))),(y,.v (.c c))],nob,.v (.c (.w nx (ys.take h.toNat++zs).length)),[(nx,.row e sz ((ys.take h.toNat++zs).map enc) gg ζ)]⟩,[],ς o⟩:=by
 subst hzd;subst hg
 simp only[fH,decide_eq_true_eq] at H0
 have hle:h.toNat<=ys.length:=by omega
 have hl:(ys.take h.toNat++zs).length=h.toNat+zs.length:=by simp;omega
 simp only[cW,decide_eq_true_eq,hl] at H
 have:=Fz (P:=P) (d:=d) (ty:=ty) (ps:=ps) (af:=af) (gd:=gd) (x:=x) (y:=y) (t:=t) (e:=e) (sz:=sz) (by_:=by_) (q:=nx) (n:=h.toNat) hrv ho hs (by simp_all) (FD henc zs) (by simp_all) (by simp_all)
 rw[<-aat,<-aad,ZU,<-hl] at this
 exact⟨this,.inl ⟨rfl,bO hd⟩,⟨hx,hy,θ⟩,qs hp,ly hnx,rfl⟩
theorem apxPF{by_ o:Nat}{ys zs:List α}{c:C}(ls:List Nat)[da P t e sz by_](H0:fH ys 0 h=ζ)(H:cW by_ (ys.take h.toNat++zs).length=ζ)(hzd:zs.map enc=zd)(henc:∀a,(enc a).length=sz)(hfl:∀a,qd (enc a)=ζ)(hp:oi ob ls=ς nob)(hs:Src nob c zd gy)(hd:nlt d N=ζ)(hx:opT sl x= .v (.c (.w o h.toNat)))(hy:opT sl y= .v (.c c))(ho:go nob o=ς (.row e sz (ys.map enc) g ζ))(hrv:rsv o=η)(hnx:nxt nx=ς nx'):
 NX P N ⟨ς d,.call ⟨.builtin .append,#[x,y],#[t,t]⟩,ty,ps,af,gd⟩ ⟨sl,ob,nx⟩ ⟨(d,.v (.c (.w nx (ys.take h.toNat++zs).length)))::sl,(nx,.row e sz ((ys.take h.toNat++zs).map enc) ζ ζ)::ob,nx'⟩
  ⟨⟨d,[(x,.v (.c (.w o h.toNat))),(y,.v (.c c))],nob,.v (.c (.w nx (ys.take h.toNat++zs).length)),[(nx,.row e sz ((ys.take h.toNat++zs).map enc) ζ ζ)]⟩,[],ς o⟩:=by
 obtain⟨h1,h2,h3,h4,h5,h6⟩:=apxP (P:=P) (N:=N) (t:=t) (x:=x) (y:=y) (enc:=enc) (d:=d) (ty:=ty) (ps:=ps) (af:=af) (gd:=gd) (sl:=sl) (ob:=ob) (nx:=nx) ls H0 H hzd henc hp hs hd hx hy ho rfl hrv hnx
 refine⟨?_,h2,h3,h4,ly hnx,rfl⟩
 intro cx E a w ok hne hnob hfr
 refine Oper.wp_mono ?_ (h1 cx E a w ok hne hnob (λl x hm=>by simp_all))
 rintro a' w' ⟨v,E',k1,k2,k3,k4,k5,k6,k7⟩
 refine⟨v,E',k1,k2,k3,k4,λl x hm=>?_,k6,λl x hl=>(k7 l x hl).imp id (λ⟨x',hm⟩=>by simp_all)⟩
 simp at hm;obtain⟨rfl,rfl⟩:=hm
 obtain⟨b,c,arr,j1,j2,j3,j4,j5,j6,j7,j8,j9⟩:=k5 _ _ (.head _)
 refine⟨b,c,arr,j1,j2,j3,by simp_all,j5,by simp_all,?_,j8,(λh=>by cases h),θ⟩
 have:rdLL w' (E'.H ζ) ((ys.take h.toNat++zs).map enc) b 0:=vL (λe he=>by grind) j7
 simp_all
end
def nmO(d:Nat):Operand->Bool
 | .tmp t=>!d0 t d
 |_=>ζ
def Ou(d:Nat):Op->Bool
 | .move x| .assign x| .nilCheck x| .fieldAddr _ x _| .field _ x _| .load _ x| .unOp _ _ x| .convert _ _ x| .extract x _=>nmO d x
 | .store _ x y| .indexAddr _ x y| .index _ x y| .binOp _ _ x y _=>nmO d x&&nmO d y
 | .buildSlice _ _ ps| .build _ ps=>ps.toList.all λp=>nmO d p.2
 | .call c=>(match c.callee with| .value x=>nmO d x| .builtin _=>ζ|_=>η)&&c.args.toList.all (nmO d)
 |_=>η
theorem XU{d:Nat}{ρ ρ':Operand->Value}(hρ:∀x,nmO d x=ζ->ρ x=ρ' x){l:Array Operand}(h:l.toList.all (nmO d)=ζ):l.map ρ=l.map ρ':=by
 grind
theorem Vc{d:Nat}{ρ ρ':Operand->Value}(hρ:∀x,nmO d x=ζ->ρ x=ρ' x){l:Array (α×Operand)}(h:(l.toList.all λp=>nmO d p.2)=ζ):(l.map λ(i,x)=>(i,ρ x))=(l.map λ(i,x)=>(i,ρ' x)):=by
 grind
theorem Vr{d:Nat}{o:Oper}{ρ ρ':Operand->Value}(h:Ou d o.op=ζ)(hρ:∀x,nmO d x=ζ->ρ x=ρ' x):execOp ρ o=execOp ρ' o:=by
 unfold execOp
 cases e:o.op with
 |move x|assign x|nilCheck x|fieldAddr _ x _|field _ x _|load _ x|unOp _ _ x|convert _ _ x|extract x _=>
  rw[e] at h;simp only[hρ x h]
 |store _ x y|indexAddr _ x y|index _ x y|binOp _ _ x y _=>
  rw[e] at h;simp only[Ou,hV] at h;simp_all
 |buildSlice _ _ ps|build _ ps=>rw[e] at h;simp only[Vc hρ h]
 |call c=>
  rw[e] at h
  simp only[Ou,hV] at h
  have h2:=XU hρ h.2
  have:resolve ρ c o.type=resolve ρ' c o.type:=by
   unfold resolve
   rw[h2]
   cases e2:c.callee with
   |value x=>simp_all
   |builtin b=>rfl
   |invoke r n=>simp_all
  simp_all
 |_=>first|rfl|(rw[e] at h;cases h)
section
variable{P:Program}{ops:Array Oper}{Q:Exit->Act->World->Prop}
theorem ta(a:Act)(o:Option Nat)(d:Nat)(u v:Value)(h:o≠ς d):(a.put (ς d) v).put o u=(a.put o u).put (ς d) v:=by
 cases o with
 |none=>rfl
 |some k=>
  have hk:k≠d:=λe=>h (by rw[e])
  simp only[Act.put]
  congr 1
  exact aaT _ _ (Ne.symm hk)
theorem QF{d:Nat}{v:Value}{x:Operand}(h:nmO d x=ζ):(a.put (ς d) v).eval x=a.eval x:=by
 cases x with
 |tmp t=>
  have ht:t≠d:=λe=>by subst e;simp[nmO] at h
  show(a.tmps.setIfInBounds d v).getD t undef=a.tmps.getD t undef
  rw[aaI,aaI,aaQ (Ne.symm ht)]
 |_=>rfl
theorem TX{o:Oper}{d:Nat}{v:Value}{K K':Act->World->Prop}(hQ:∀e a w,Q e a w->e= .normal)(h:Ou d o.op=ζ)(hd:o.dst≠ς d)(hs:o.dst≠ς s)(hK:∀a' w',a'.tmps.getD s undef=a.tmps.getD s undef->K (a'.put (ς d) v) w'->K' a' w')(hh:o.wp P (a.put (ς d) v) w K Q):o.wp P a w K' Q:=by
 have hput:∀(a0:Act) (u:Value),a0.tmps=a.tmps->(a0.put o.dst u).tmps.getD s undef=a.tmps.getD s undef:=λa0 u h0=>by
  rw[<-h0]
  cases e:o.dst with
  |none=>rfl
  |some k=>
   have hk:k≠s:=λe'=>hs (by rw[e,e'])
   show(a0.tmps.setIfInBounds k u).getD s undef=a0.tmps.getD s undef
   simp_all
 unfold Oper.wp at*
 rw[Vr h (ρ':=a.eval) (λx hx=>QF hx)] at hh
 generalize hr:(execOp a.eval o).run P w=r at*
 cases r with
 |ok n w'=>
  cases n with
  |value u=>exact hK _ w' (hput a u rfl) (by rw[<-ta a o.dst d u v hd];exact hh)
  |skip=>exact hK _ w' (hput a undef rfl) (by rw[<-ta a o.dst d undef v hd];exact hh)
  |defer x=>exact hK _ w' (hput {a with defers:=x::a.defers} undef rfl) (by rw[<-ta _ o.dst d undef v hd];exact hh)
  |enter f args=>
   refine Calls.mono hh (λe w'' he=>?_)
   cases e with
   |returned u=>exact hK _ w'' (hput a u rfl) (by rw[<-ta a o.dst d u v hd];exact he)
   |panicked c=>grind
   |outgrown=>exact he
  |row r args=>exact Rows.mono hh (λu w'' he=>hK _ w'' (hput a u rfl) (by rw[<-ta a o.dst d u v hd];exact he))
  |_=>exact hh.elim
 |halt x w'=>
  cases x with
  |panic u=>have:=hQ _ _ _ hh;cases this
  |_=>exact hh.elim
def ET(ops:Array Oper)(i0 d s:Nat):Prop:=∀j o,ops[j]?=ς o->j≠i0->(∃e∈o.after,Region.binds .any e=ζ/\e.on=i0)\/(Ou d o.op=ζ/\o.dst≠ς d/\o.dst≠ς s/\∀q b,o.guard=ς (q,b)->(ops[q]?).bind (·.dst)≠ς d)
theorem Le{o:Oper}{d:Nat}{v:Value}(hg:∀q b,o.guard=ς (q,b)->(ops[q]?).bind (·.dst)≠ς d):Region.wanted o (yielded ops (a.put (ς d) v).tmps)=Region.wanted o (yielded ops a.tmps):=by
 unfold Region.wanted
 cases e:o.guard with
 |none=>rfl
 |some qb=>
  obtain⟨q,b⟩:=qb
  have:=hg q b e
  have hy:yielded ops (a.put (ς d) v).tmps q=yielded ops a.tmps q:=by
   unfold yielded
   cases e2:(ops[q]?).bind (·.dst) with
   |none=>rfl
   |some k=>
    have hk:d≠k:=λe'=>this (by rw[e2,e'])
    show(match(a.tmps.setIfInBounds d v)[k]? with|some (.bool b)=>ς b|_=>ξ)=_
    grind
  simp_all
theorem BC{i0 d:Nat}{o0:Oper}{listed:Array Bool}(hQ:∀e a w,Q e a w->e= .normal)(ho:ops[i0]?=ς o0)(hop:o0.op= .move (.tmp s))(hod:o0.dst=ς d)(hog:o0.guard=ξ)(hoa:o0.after= #[])(hE:ET ops i0 d s)(hlt:i0<ops.size)(hsz:listed.size=ops.size)(hun:listed.getD i0 η=η)(hh:wpAny P .any ops Q n (listed.setIfInBounds i0 ζ) (a.put (ς d) (a.tmps.getD s undef)) w)(h:∀i,(i∈Region.ready .any ops listed/\i≠i0/\i∈Region.ready .any ops (listed.setIfInBounds i0 ζ))->wpOp P ops Q i (wpAny P .any ops Q n (listed.setIfInBounds i ζ)) a w):wpAny P .any ops Q (n+1) listed a w:=by
 have hr0:i0∈Region.ready .any ops listed:=by
  rw[mem_ready]
  refine⟨?_,o0,ho,λe he=>by simp_all⟩
  rw[aaI,Array.getElem?_eq_getElem oaa] at hun ⊢
  simpa using hun
 refine⟨λh0=>(by simp_all),λi hi=>?_⟩
 by_cases hne:i=i0
 .subst hne
  unfold wpOp
  simp only[ho]
  rw[if_pos (by simp[Region.wanted,hog])]
  refine .inl ?_
  unfold Oper.wp execOp
  rw[hop]
  show wpAny P .any ops Q n _ (a.put o0.dst (a.tmps.getD s undef)) w
  simp_all
 refine h i ⟨hi,hne,?_⟩
 obtain⟨h1,h2,o,h3,h4⟩:=kS hsz hi
 rw[mem_ready]
 refine⟨?_,o,h3,λe he hb=>?_⟩
 .have:(listed.setIfInBounds i0 ζ).getD i η=false:=by rw[cm oaa,if_neg (Ne.symm hne)];exact h2
  simp_all
 rw[cm oaa]
 simp_all
theorem Jq{i0 d:Nat}{o0:Oper}(hQ:∀e a w,Q e a w->e= .normal)(ho:ops[i0]?=ς o0)(hop:o0.op= .move (.tmp s))(hod:o0.dst=ς d)(hog:o0.guard=ξ)(hoa:o0.after= #[])(hsd:s≠d)(hE:ET ops i0 d s):
 ∀(n:Nat) (listed:Array Bool) (a:Act) (w:World),listed.size=ops.size->listed.getD i0 η=η->wpAny P .any ops Q n (listed.setIfInBounds i0 ζ) (a.put (ς d) (a.tmps.getD s undef)) w->wpAny P .any ops Q (n+1) listed a w:=by
 have hlt:i0<ops.size:=by
  rcases ZF i0 ops.size with h|h
  .exact h
  simp_all
 intro n
 induction n with
 |zero=>
  intro listed a w hsz hun hh
  refine BC hQ ho hop hod hog hoa hE hlt hsz hun hh (λi hi=>?_)
  have hi2:=hi.2.2;rw[hh.1] at hi2;cases hi2
 |succ n ih=>
  intro listed a w hsz hun hh
  refine BC hQ ho hop hod hog hoa hE hlt hsz hun hh (λi hi=>?_)
  obtain⟨h1,h2,o,h3,h4⟩:=kS hsz hi.1
  have hne:=hi.2.1
  have hR:=hi.2.2
  have h5:=hh.2 i hR
  rcases hE i o h3 hne with⟨e,he,hb,hon⟩|⟨k1,k2,k3,k4⟩
  .grind
  have hs2:(listed.setIfInBounds i ζ).size=ops.size:=by simpa using hsz
  have hun2:(listed.setIfInBounds i ζ).getD i0 η=false:=by rw[cm oaa,if_neg hne];exact hun
  have key:∀a' w',a'.tmps.getD s undef=a.tmps.getD s undef->wpAny P .any ops Q n ((listed.setIfInBounds i0 ζ).setIfInBounds i ζ) (a'.put (ς d) (a.tmps.getD s undef)) w'->wpAny P .any ops Q (n+1) (listed.setIfInBounds i ζ) a' w':=λa' w' hs' hk=>by
   refine ih _ a' w' hs2 hun2 ?_
   rw[hs',aaT _ _ hne];exact hk
  unfold wpOp at h5 ⊢
  simp only[h3] at h5 ⊢
  rw[Le k4] at h5
  split
  .rename_i hw
   rw[if_pos hw] at h5
   rcases h5 with h5|⟨_,a'',w'',h5⟩
   .exact .inl (TX hQ k1 k2 k3 key h5)
   grind
  rename_i hw
  rw[if_neg hw] at h5
  rw[ta a o.dst d undef _ k2] at h5
  refine key _ w ?_ h5
  cases e:o.dst with
  |none=>rfl
  |some k=>
   have hk:k≠s:=λe'=>k3 (by rw[e,e'])
   show(a.tmps.setIfInBounds k undef).getD s undef=a.tmps.getD s undef
   rw[aaI,aaI,aaQ hk]
theorem Jr{Q':Exit->Act->World->Prop}(hQ:∀e a w,Q e a w->Q' e a w):∀(n:Nat) (listed:Array Bool) (a:Act) (w:World),wpAny P .any ops Q n listed a w->wpAny P .any ops Q' n listed a w:=by
 intro n
 induction n with
 |zero=>exact λ_ _ _ h=>⟨h.1,hQ _ _ _ h.2⟩
 |succ n ih=>
  intro listed a w h
  refine⟨λh0=>hQ _ _ _ (h.1 h0),λi hi=>?_⟩
  have h2:=h.2 i hi
  unfold wpOp at h2 ⊢
  split
  .simp_all
  rename_i o e
  simp only[e] at h2
  split
  .rename_i hw
   rw[if_pos hw] at h2
   rcases h2 with h2|⟨h2,a',w',h3⟩
   .exact .inl (qQ hQ (Oper.wp_mono (λa w=>ih _ a w) h2))
   exact .inr ⟨h2,a',w',hQ _ _ _ h3⟩
  simp_all
end
def JX(ops:Array Oper)(i0 d s:Nat):Bool:=
 (match ops[i0]? with
  |some ⟨ς d',.move (.tmp s'),_,_,af,ξ⟩=>d0 d' d&&d0 s' s&&af.toList.isEmpty
  |_=>η)&&!d0 s d&&(Zm ops.size).all λj=>d0 j i0||(match ops[j]? with
   |some o=>(o.after.toList.any λe=>Region.binds .any e&&d0 e.on i0)||(Ou d o.op&&(match o.dst with|some k=>!d0 k d&&!d0 k s|none=>ζ)&&
    (match o.guard with|some (q,_)=>(match(ops[q]?).bind (·.dst) with|some k=>!d0 k d|none=>ζ)|none=>ζ))
   |none=>η)
theorem Vp{a:Nat}(h:(!d0 a b)=ζ):a≠b:=λe=>by simp_all
theorem NM{ops:Array Oper}{i0 d:Nat}(h:JX ops i0 d s=ζ):(∃o0,ops[i0]?=ς o0/\o0.op= .move (.tmp s)/\o0.dst=ς d/\o0.guard=ξ/\o0.after= #[])/\s≠d/\ET ops i0 d s:=by
 simp only[JX,hV] at h
 obtain⟨⟨h1,h2⟩,h3⟩:=h
 refine⟨?_,Vp h2,λj o hj hne=>?_⟩
 .split at h1
  .simp_all
  cases h1
 have hlt:j<ops.size:=by
  rcases ZF j ops.size with h|h
  .exact h
  simp_all
 have k:=Zq.1 h3 j (by simp_all)
 simp only[hj,ZC,hV] at k
 rcases k with k|k|⟨⟨k1,k2⟩,k3⟩
 .simp_all
 .obtain⟨e,he,hb⟩:=ZG.1 k
  simp only[hV] at hb
  exact .inl ⟨e,by simp_all,hb.1,Zo hb.2⟩
 refine .inr ⟨k1,λe=>?_,λe=>?_,λq b hg e=>?_⟩
 .simp_all
 .simp_all
 simp_all
theorem Ux{l:List Oper}{ob:Laa}{AQ:Exit->St->Prop}(i0 d s:Nat)(is:List Nat){r:List (Nat×Oper)}{t:T}(hm:P.follows .mixedOrders=ζ)(he:AO l.toArray=ζ)(hc:JN l.length (i0::is)=ζ)(ho:Ce l is=ς r)(hE:JX l.toArray i0 d s=ζ)(hd:nlt d N=ζ)(ht:gt sl s=t)(h:DZ P N l.toArray r [i0] [] [] ⟨(d,t)::sl,ob,nx⟩ ⟨(d,t)::sl,ob,nx⟩ (λs=>AQ .normal s)):AWC P N (.region id l.toArray ζ) ⟨sl,ob,nx⟩ AQ:=by
 subst ht
 intro cx E a w hR
 refine wp_region_any hm ?_
 have hR':=yD hR
 obtain⟨⟨o0,e1,e2,e3,e4,e5⟩,hsd,hE⟩:=NM hE
 have hlt:i0<l.toArray.size:=by
  rcases ZF i0 l.toArray.size with h|h
  .exact h
  simp_all
 have hdN:d<N:=bO hd
 have hedge:∀i o,l.toArray[i]?=ς o->∀e∈o.after,Region.binds .any e=ζ->e.on<i:=by
  intro i o ho e hm hb
  have hi:i<l.toArray.size:=by
   rcases ZF i l.toArray.size with h|h
   .exact h
   simp_all
  have:=Zq.1 he i (by simp_all)
  simp only[ho] at this
  have:=Zq.1 this e (by simp_all)
  simp only[hb,aam,ZV] at this
  exact bO this
 have hfull:unl l.toArray (Zv l.toArray.size η)=l.toArray.size:=by
  unfold unl
  rw[aaN.2]
  .simp
  simp_all
 have hst:=qO (ops:=l.toArray) (listed:=Zv l.toArray.size η) (i:=i0) (by simp) hlt (gS _ _)
 rw[hfull] at hst
 have hcl:uI l.toArray ((Zv l.toArray.size η).setIfInBounds i0 ζ):=uK (by simp) hlt e1 (λe he=>by grind) (λi o ho hd=>by rw[gS] at hd;cases hd)
 have hR2:Rel N cx E ⟨(d,gt sl s)::sl,ob,nx⟩ (a.put (ς d) (a.tmps.getD s undef)) {w with drawn:=w.drawn+1}:=by
  refine⟨hR'.ok,hR'.dom,hR'.obs,λk=>?_,hR'.dfr,by simpa [Act.put] using hR'.size,hR'.td⟩
  rw[eK (by rw[hR'.size];exact hdN)]
  by_cases hk:d=k
  .subst hk;rw[cG,if_pos rfl];exact hR'.sl s
  rw[b7 _ _ hk,if_neg hk];exact hR'.sl k
 have key:=Qx (P:=P) (cx:=cx) (Q:=λe a w=>e= .normal/\B5 N cx AQ .normal a w) (QA hedge) (λE st a w hR hK=>⟨rfl,E,st,hR,hK⟩) h rfl (λq hq=>by have:=(qr ho).1 q hq;grind) (λj hj=>by
  have hj':j<l.length:=by simpa using hj
  have:=Zq.1 hc j (by grind)
  rcases Zp.1 (fw.1 this) with e|e
  .grind
  exact .inr (.inr ((qr ho).2 j e))) (λi o y _ hy=>by simp at hy) (λk=>rfl) rfl rfl ((Zv l.toArray.size η).setIfInBounds i0 ζ) _ _ E (by simp) hcl (λj=>by
  rw[cm (by grind)]
  split
  .rename_i e;subst e;simp[ia]
  rename_i e;rw[gS];symm;rw[Bool.eq_false_iff];intro h;have:=fw.1 h;grind) hR2
 have k2:=Jq (λe a w h=>h.1) e1 e2 e3 e4 e5 hsd hE _ (Zv l.toArray.size η) a {w with drawn:=w.drawn+1} (by simp) (gS _ _) key
 rw[<-hst] at k2
 exact Jr (λe a w h=>by grind) _ _ _ _ k2
section
variable{P:Program}{N:Nat}{d:Tmp}{x y:Operand}{ty:TypeId}{ps:String}{af:Array Edge}{gd:Option (Nat×Bool)}{sl:Lab}{ob:Laa}{nx:Nat}
end
def oI(ops:Array Oper):Array Bool->List Nat->Prop
 |listed,[]=>Region.ready .any ops listed=[]
 |listed,i::L=>i∈Region.ready .any ops listed/\oI ops (listed.setIfInBounds i ζ) L
section
variable{P:Program}{ops:Array Oper}{Q:Exit->Act->World->Prop}
theorem N6:∀(fuel t:Nat) (listed:Array Bool),listed.size=ops.size->unl ops listed<=fuel->oI ops listed (Region.linearise.go .any ops fuel t listed []):=by
 intro fuel
 induction fuel with
 |zero=>
  intro t listed hsz hu
  simp only[Region.linearise.go,List.reverse_nil,oI]
  rw[aaJ]
  intro i hi
  obtain⟨h1,h2,_⟩:=kS hsz hi
  have:=qO hsz h1 h2
  omega
 |succ fuel ih=>
  intro t listed hsz hu
  simp only[Region.linearise.go]
  change oI ops listed (match(Region.ready .any ops listed)[t%(Region.ready .any ops listed).length]? with
   |some i=>Region.linearise.go .any ops fuel (t/(Region.ready .any ops listed).length) (listed.setIfInBounds i ζ) [i]
   |none=>[].reverse)
  cases hi:(Region.ready .any ops listed)[t%(Region.ready .any ops listed).length]? with
  |none=>
   have hnil:Region.ready .any ops listed=[]:=by
    cases hr:Region.ready .any ops listed with
    |nil=>rfl
    |cons x xs=>
     rw[hr] at hi
     have hlt:t%(x::xs).length<(x::xs).length:=aaS _ (by simp)
     grind
   exact hnil
  |some i=>
   simp only[]
   rw[linearise_go_acc,List.reverse_singleton,List.singleton_append]
   have hm:=Zk hi
   obtain⟨h1,h2,_⟩:=kS hsz hm
   have:=qO hsz h1 h2
   exact⟨hm,ih _ _ (by simp_all) oaa⟩
theorem EG:∀(L:List Nat) (listed:Array Bool),listed.size=ops.size->oI ops listed L->L.length<=unl ops listed
 |[],_,_,_=>ZA _
 |i::L,listed,hsz,h=>by
  obtain⟨h1,h2,_⟩:=kS hsz h.1
  have:=qO hsz h1 h2
  have h3:=EG L _ (by simp_all) h.2
  simp_all
theorem EH:∀(L:List Nat) (n:Nat) (listed:Array Bool) (a:Act) (w:World),oI ops listed L->L.length<=n->wpAny P .any ops Q n listed a w->wpOps P ops Q L a w
 |[],0,_,_,_,_,_,h=>h.2
 |[],n+1,_,_,_,hv,_,h=>h.1 hv
 |i::L,0,_,_,_,_,hl,_=>by simp at hl
 |i::L,n+1,listed,a,w,hv,hl,h=>by
  rw[wpOps_cons]
  exact wpOp_mono (λa w h=>EH L n _ a w hv.2 (by simp_all) h) (h.2 i hv.1)
end
def kF:List Oper->Nat->Nat->List Oper
 |[],_,_=>[]
 |⟨d,op,ty,ps,af,gd⟩::r,0,q=>⟨d,op,ty,ps,af.push ⟨q,.data⟩,gd⟩::r
 |o::r,p+1,q=>o::kF r p q
theorem tE:∀{l:List Oper} {p q i:Nat},i≠p->(kF l p q)[i]?=l[i]?
 |[],_,_,_,_=>rfl
 |o::r,0,q,0,h=>absurd rfl h
 |⟨d,op,ty,ps,af,gd⟩::r,0,q,i+1,_=>by simp[kF]
 |o::r,p+1,q,0,_=>by simp[kF]
 |o::r,p+1,q,i+1,h=>by simp only[kF,aaU];exact tE (λe=>h (by rw[e]))
theorem vA:∀{l:List Oper} {p q:Nat},(kF l p q)[p]?=(l[p]?).map λo=>{o with after:=o.after.push ⟨q,.data⟩}
 |[],_,_=>rfl
 |⟨d,op,ty,ps,af,gd⟩::r,0,q=>by simp[kF]
 |o::r,p+1,q=>by simp only[kF,aaU];exact vA
theorem Bd:∀{l:List Oper} {p q:Nat},(kF l p q).length=l.length
 |[],_,_=>rfl
 |⟨d,op,ty,ps,af,gd⟩::r,0,q=>by simp[kF]
 |o::r,p+1,q=>by simp[kF,Bd]
theorem lB{l:List Oper}{p:Nat}{listed:Array Bool} :i∈Region.ready .any (kF l p q).toArray listed↔i∈Region.ready .any l.toArray listed/\(i=p->listed.getD q η=ζ):=by
 rw[mem_ready,mem_ready]
 simp only[aaF]
 by_cases h:i=p
 .subst h
  rw[vA]
  constructor
  .rintro⟨h1,o,ho,hd⟩
   rw[Option.map_eq_some_iff] at ho
   obtain⟨o',ho',rfl⟩:=ho
   exact⟨⟨h1,o',ho',λe he hb=>hd e (by simp[he]) hb⟩,λ_=>hd ⟨q,.data⟩ (by simp) rfl⟩
  grind
 rw[tE h]
 simp_all
theorem C5{l:List Oper}{p q:Nat}:∀(L:List Nat) (listed:Array Bool),listed.size=l.toArray.size->listed.getD q η=ζ->oI l.toArray listed L->oI (kF l p q).toArray listed L
 |[],listed,_,hq,h=>by
  show Region.ready .any (kF l p q).toArray listed=[]
  rw[aaJ]
  intro i hi
  have:=(lB.1 hi).1
  have h':Region.ready .any l.toArray listed=[]:=h
  simp_all
 |i::L,listed,hsz,hq,h=>by
  refine⟨lB.2 ⟨h.1,λ_=>hq⟩,C5 L _ (by simp_all) ?_ h.2⟩
  obtain⟨h1,_⟩:=kS hsz h.1
  rw[cm oaa]
  simp_all
theorem Au{l:List Oper}{p q:Nat}(hpq:p≠q):∀(L:List Nat) (listed:Array Bool),listed.size=l.toArray.size->listed.getD p η=η->listed.getD q η=η->oI l.toArray listed L->oI (kF l p q).toArray listed L\/oI (kF l q p).toArray listed L
 |[],listed,_,_,_,h=>by
  left
  show Region.ready .any (kF l p q).toArray listed=[]
  rw[aaJ]
  intro i hi
  have:=(lB.1 hi).1
  have h':Region.ready .any l.toArray listed=[]:=h
  simp_all
 |i::L,listed,hsz,hp,hq,h=>by
  have hs2:(listed.setIfInBounds i ζ).size=l.toArray.size:=by simpa using hsz
  obtain⟨h1,_⟩:=kS hsz h.1
  have hg:∀j,(listed.setIfInBounds i ζ).getD j η=if i=j then ζ else listed.getD j false:=λj=>cm oaa
  by_cases e1:i=q
  .left
   exact⟨lB.2 ⟨h.1,λe=>absurd (e.symm.trans e1) hpq⟩,C5 L _ hs2 (by simp_all) h.2⟩
  by_cases e2:i=p
  .right
   exact⟨lB.2 ⟨h.1,λe=>absurd e e1⟩,C5 L _ hs2 (by simp_all) h.2⟩
  rcases Au hpq L _ hs2 (by simp_all) (by simp_all) h.2 with k|k
  .exact .inl ⟨lB.2 ⟨h.1,λe=>absurd e e2⟩,k⟩
  exact .inr ⟨lB.2 ⟨h.1,λe=>absurd e e1⟩,k⟩
section
variable{P:Program}{Q:Exit->Act->World->Prop}
theorem GI{l:List Oper}{p:Nat}(ts:Array Value)(j:Nat):yielded (kF l p q).toArray ts j=yielded l.toArray ts j:=by
 unfold yielded
 have:(((kF l p q).toArray)[j]?).bind (·.dst)=((l.toArray)[j]?).bind (·.dst):=by
  simp only[aaF]
  by_cases h:j=p
  .subst h;rw[vA];grind
  rw[tE h]
 rw[this]
theorem xE{l:List Oper}{p q:Nat}:∀(L:List Nat) (a:Act) (w:World),wpOps P (kF l p q).toArray Q L a w->wpOps P l.toArray Q L a w
 |[],_,_,h=>h
 |i::L,a,w,h=>by
  rw[wpOps_cons] at h ⊢
  have h':=wpOp_mono (λa w=>xE L a w) h
  unfold wpOp at h' ⊢
  have hy:yielded (kF l p q).toArray a.tmps=yielded l.toArray a.tmps:=funext (GI a.tmps)
  rw[hy] at h'
  simp only[aaF] at h' ⊢
  by_cases e:i=p
  .subst e
   rw[vA] at h'
   cases e2:l[i]? with
   |none=>simp_all
   |some o=>rw[e2] at h';exact h'
  rw[tE e] at h';exact h'
end
def rkO:List Nat->Nat->Nat
 |[],_=>0
 |i::is,k=>bif d0 i k then 0 else rkO is k+1
def Fh(ops:Array Oper)(is:List Nat):Bool:=
 (Zm ops.size).all λi=>match ops[i]? with
  |some o=>o.after.toList.all λe=>!Region.binds .any e||(nlt e.on ops.size&&nlt (rkO is e.on) (rkO is i))
  |none=>η
theorem NN{ops:Array Oper}{is:List Nat}(h:Fh ops is=ζ):Edg ops (rkO is):=by
 intro i o ho e he hb
 have hi:i<ops.size:=by
  rcases ZF i ops.size with h|h
  .exact h
  simp_all
 have:=Zq.1 h i (by simp_all)
 simp only[ho] at this
 have:=Zq.1 this e (by simp_all)
 simp only[hb,aam,ZV,hV] at this
 exact⟨bO this.1,bO this.2⟩
def AWA(P:Program)(N:Nat)(l:List Oper)(st:St)(K:St->Prop):Prop:=
 ∀cx E a w,Rel N cx E st a w->∀L,oI l.toArray (Zv l.toArray.size η) L->wpOps P l.toArray (B5 N cx (onN K)) L a {w with drawn:=w.drawn+1}
theorem sW{l:List Oper}{K:St->Prop}(p q:Nat)(hpq:d0 p q=η)(h1:AWA P N (kF l p q) st K)(h2:AWA P N (kF l q p) st K):AWA P N l st K:=by
 intro cx E a w hR L hv
 have e1:(kF l p q).toArray.size=l.toArray.size:=by simp[Bd]
 have e2:(kF l q p).toArray.size=l.toArray.size:=by simp[Bd]
 have hne:p≠q:=λe=>by simp_all
 rcases Au hne L _ (by simp) (gS _ _) (gS _ _) hv with k|k
 .rw[<-e1] at k;exact xE L _ _ (h1 cx E a w hR L k)
 rw[<-e2] at k;exact xE L _ _ (h2 cx E a w hR L k)
theorem tH{l:List Oper}{K:St->Prop}(is:List Nat){r:List (Nat×Oper)}(he:Fh l.toArray is=ζ)(hc:JN l.length is=ζ)(ho:Ce l is=ς r)(h:DZ P N l.toArray r [] [] [] st st K):AWA P N l st K:=by
 intro cx E a w hR L hv
 have hR':=yD hR
 have hedge:=NN he
 have hfull:unl l.toArray (Zv l.toArray.size η)=l.toArray.size:=by
  unfold unl
  rw[aaN.2]
  .simp
  simp_all
 have:=Qx (P:=P) (cx:=cx) (Q:=B5 N cx (onN K)) hedge (λE st a w hR hK=>⟨E,st,hR,hK⟩) h rfl (λq hq=>by have:=(qr ho).1 q hq;simp_all) (λj hj=>by
  have hj':j<l.length:=by simpa using hj
  have:=Zq.1 hc j (by simp_all)
  exact .inr (.inr ((qr ho).2 j (fw.1 this)))) (λi o y _ hy=>by simp at hy) (λk=>rfl) rfl rfl (Zv l.toArray.size η) a _ E (by simp) (λi o ho hd=>by rw[gS] at hd;cases hd) (λj=>by rw[gS];simp[ia]) hR'
 exact EH L _ _ _ _ hv (EG L _ (by simp) hv) this
theorem AH{l:List Oper}{AQ:Exit->St->Prop}(M:St)[c:Clo N AQ](hm:P.follows .mixedOrders=ζ)(h:AWA P N l st (λs=>cB N s M))(h2:AQ .normal M):AWC P N (.region id l.toArray ζ) st AQ:=by
 refine xM (AQ:=onN λs=>cB N s M) ?_ (λe s h=>by
  cases e<;>first|exact c.h _ _ _ h h2|exact h.elim)
 intro cx E a w hR
 exact wp_region_draw λt=>by
  simp only[Region.schedule,hm,Bool.true_or,if_true]
  exact h cx E a w hR _ (N6 _ _ _ (by simp) (by
   unfold unl
   grind))
def cpD(els:List α)(off:Nat)(ys:List α):List α:=els.take off++cpL (els.drop off) ys
theorem UD{β:Type}(f:α->β)(els ys:List α)(off:Nat):cpD (els.map f) off (ys.map f)=(cpD els off ys).map f:=by simp[cpD,<-aat,<-aax,LD]
@[simp] theorem cpD_len (els ys:List α) (off:Nat):(cpD els off ys).length=els.length:=by simp[cpD];omega
section
variable{P:Program}{N:Nat}{d:Tmp}{ty:TypeId}{ps:String}{af:Array Edge}{gd:Option (Nat×Bool)}{x y z:Operand}{st:St}
theorem RS{by_ o off len:Nat}{c:C}[ht:da P t e sz by_](hd:d<N)(hx:opT st.sl x= .v (.c (.s o sz off len)))(hy:opT st.sl y= .v (.c c))(ho:go st.ob o=ς (.row e sz els g ζ))(hs:Src st.ob c ys gy)(hn:els.length=off+len)(hsz:∀e∈ys,e.length=sz):
 AWO P N ⟨ς d,.call ⟨.builtin .copy,#[x,y],#[t,t]⟩,ty,ps,af,gd⟩ st ⟨(d,.any)::st.sl,(o,.row e sz (cpD els off ys) (g&&gy) ζ)::st.ob,st.nx⟩:=by
 intro cx E a w hR
 have h1:=hR.op x;rw[hx] at h1
 have h2:=hR.op y;rw[hy] at h2
 obtain⟨AA,cc,b,kk,hr,hu,hlc0,_,hAA⟩:=h1
 obtain⟨b',c',arr,hr',hh,ha,hlc,hmx,hes,hrd,hFm,_⟩:=hR.obs o _ ho
 rw[hr] at hr';cases hr'
 have hF:=hFm rfl
 obtain⟨A,k,hv,hyk,hA⟩:=K3 hR hs h2
 obtain⟨ii,zz,i1,i2,i3,i4,i5⟩:=ht.i
 obtain⟨m,hm⟩:∃m,m=Nat.min ys.length len:=⟨_,rfl⟩
 have hm1:m<=ys.length:=by rw[hm];exact Nat.min_le_left _ _
 have hm2:m<=len:=by rw[hm];exact Nat.min_le_right _ _
 have hcp:cpD els off ys=els.take off++ys.take m++els.drop (off+m):=by
  unfold cpD cpL
  rw[List.length_drop,List.drop_drop,List.append_assoc,hn,show off+len-off=len by omega]
  congr 1
  rcases Nat.le_total ys.length len with h|h
  .grind
  simp_all
 have hsrc:∃news:Lae,news.length=m*sz/\(∀u∈news,u.oneCell'=ζ)/\(∀(j:Nat) (xd:D),(ys.take m).flatten[j]?=ς xd->∃u,news[j]?=ς u/\rdD w (E.H gy) xd u)/\
  (Builtin.firstCells sz m (.slice A ys.length k)).run P w= .ok news.toArray w:=by
  rcases hA with h0|⟨b2,off,rfl,hrd2⟩
  .subst h0
   have hm0:m=0:=by simpa using hm1
   refine⟨[],by simp[hm0],by simp,by simp,?_⟩
   cases A with
   |none=>rfl
   |some ad=>simp[Builtin.firstCells,hm0,loadCells,loadCellsFrom]
  obtain⟨us,q1,q2,q3,q4⟩:=tc (eu.1 (lH m hrd2))
  have ql:us.length=m*sz:=by
   rw[q1,eh (λe he=>hsz e (ZL he)),aaf,aag hm1]
  refine⟨us,ql,q3,q4,?_⟩
  simp only[Builtin.firstCells]
  exact wF ql (λj u hj=>by have:=q2 j u hj;rwa [sm] at this)
 obtain⟨news,n1,n2,n3,n4⟩:=hsrc
 have hmul:off*sz+m*sz<=arr.size:=by rw[ha,<-aaM];exact ZI _ oaa
 have hrun:∃w',w'=w.setRow b (arr.toList.take (off*sz)++news++arr.toList.drop (off*sz+m*sz)).toArray/\(Builtin.copy_ #[t,t] ty #[.slice AA len cc,.slice A ys.length k]).run P w= .ok (goInt m) w':=by
  refine⟨_,rfl,?_⟩
  rcases hAA with h0|rfl
  .have hm0:m=0:=by omega
   subst hm0
   have hn0:news=[]:=ZS oaa
   subst hn0
   have hw:w.setRow b (arr.toList.take (off*sz)++[]++arr.toList.drop (off*sz+0*sz)).toArray=w:=by
    rw[Nat.zero_mul,ZX,List.append_nil,aaK,ZY,setRow_self w b arr e (0,0) hh]
   rw[hw]
   simp only[Builtin.copy_]
   simp[underlying,ht.u,Builtin.lenOf,d7 i1,i2]
   rw[<-hm,n4]
   cases AA<;>simp[storeCells]
  have hst:=run_storeCells_at (P:=P) b (off*sz) e news 0 arr w hh oaa n2
  simp only[ZX,n1] at hst
  simp only[Builtin.copy_]
  simp[underlying,ht.u,Builtin.lenOf,d7 i1,i2]
  simp_all
 obtain⟨w',hw',hrun⟩:=hrun
 unfold Oper.wp
 simp only[execOp,resolve,invoke,builtin,Sem.run_bind,Sem.run_pure,Result.andThen_ok,aal,aac,aae,hu,hv,hrun,Oper.upon_value]
 subst hw'
 generalize hcs:(arr.toList.take (off*sz)++news++arr.toList.drop (off*sz+m*sz)).toArray=cs
 have hk:=iQ (cs:=cs) (w:=w) hR.ok hr hF
 have hall:∀e'∈cpD els off ys,e'.length=sz:=λe' he'=>by
  grind
 have hlt:(arr.toList.take (off*sz)).length=off*sz:=by simp;omega
 have hrel:=qv (ob':=.row e sz (cpD els off ys) (g&&gy) ζ) (cs:=cs) hR hr hF ⟨b,_,_,hr,fC _ hh,by grind,by grind,hmx,hall,by
  rw[eu]
  refine lA λj xd hj=>?_
  rw[Zs,dw (fC _ hh),show cs[j]?=(arr.toList.take (off*sz)++news++arr.toList.drop (off*sz+m*sz))[j]? by grind]
  rw[hcp,aah,aah] at hj
  have hft:(els.take off).flatten.length=off*sz:=by rw[eh (λe he=>hes e (ZL he)),aaf,aag oaa]
  have hfl:(ys.take m).flatten.length=m*sz:=by rw[eh (λe he=>hsz e (ZL he)),aaf,aag hm1]
  have old:∀(p:Nat) (xd:D),els.flatten[p]?=ς xd->∃u,arr[p]?=ς u/\rdD (w.setRow b cs) (E.H (g&&gy)) xd u:=λp xd hp=>by
   obtain⟨u,u1,u2⟩:=iA (eu.1 hrd) hp
   rw[Zs,dw hh] at u1
   exact⟨u,u1,bP (hk.heap _) (hk.H _) _ _ (mX hR.ok u2 (by simp_all))⟩
  by_cases hj1:j<off*sz
  .rw[Zt (by grind),Zt oaa] at hj
   have hjd:els.flatten[j]?=ς xd:=by
    rw[<-aaK off els,aah,Zt oaa];exact hj
   obtain⟨u,u1,u2⟩:=old _ _ hjd
   grind
  by_cases hjn:j<off*sz+m*sz
  .rw[Zt (by simp_all),Zr oaa,hft] at hj
   obtain⟨u,u1,u2⟩:=n3 _ _ hj
   exact⟨u,by grind,bP (hk.heap _) (hk.H _) _ _ (mX hR.ok u2 (by simp))⟩
  rw[Zr (by simp_all),ZM,hft,hfl] at hj
  have hjd:els.flatten[j]?=ς xd:=by
   have e1:els.flatten=(els.take (off+m)).flatten++(els.drop (off+m)).flatten:=by rw[<-aah,aaK]
   have e2:(els.take (off+m)).flatten.length=off*sz+m*sz:=by rw[eh (λe he=>hes e (ZL he)),aaf,aag oaa,aaM]
   rw[e1,Zr oaa,e2];exact hj
  obtain⟨u,u1,u2⟩:=old _ _ hjd
  refine⟨u,?_,u2⟩
  have hl2:(arr.toList.take (off*sz)++news).length=off*sz+m*sz:=by rw[ZM,hlt,n1]
  rw[Zr oaa,hl2,List.getElem?_drop,show off*sz+m*sz+(j-(off*sz+m*sz))=j from by omega]
  simp_all,λ_=>hF,(λh=>by cases h),θ⟩
 exact⟨E,hrel.putAny hd _⟩
theorem cpsT{enc:α->List D}{ob:Laa}{by_ o:Nat}{ys zs:List α}{l:Int}{gg:Bool}{c:C}[da P t e sz by_](H:fH ys l ys.length=ζ)(hzd:zs.map enc=zd:=by exact rfl)(henc:∀a,(enc a).length=sz:=by exact λ_=>rfl)(hd:nlt d N=true:=by exact rfl)(hx:opT sl x= .v (.c (.s o sz l.toNat (n-l.toNat))):=by exact rfl)(hy:opT sl y= .v (.c c):=by exact rfl)(hn:ys.length=n:=by first|rfl|simp)(hs:Src ob c zd gy:=by first|exact .d|exact .nil|exact .w rfl (by first|rfl|exact lm _|simp)|exact .wn rfl (by first|rfl|exact lm _|simp))(ho:go ob o=ς (.row e sz (ys.map enc) g ζ):=by exact rfl)(hg:(g&&gy)=gg:=by exact rfl):
 AWO P N ⟨ς d,.call ⟨.builtin .copy,#[x,y],#[t,t]⟩,ty,ps,af,gd⟩ ⟨sl,ob,nx⟩ ⟨(d,.any)::sl,(o,.row e sz ((cpD ys l.toNat zs).map enc) gg ζ)::ob,nx⟩:=by
 simp only[fH,decide_eq_true_eq] at H
 subst hzd;subst hg;subst hn
 have:=RS (P:=P) (N:=N) (st:=⟨sl,ob,nx⟩) (d:=d) (ty:=ty) (ps:=ps) (af:=af) (gd:=gd) (t:=t) (e:=e) (sz:=sz) (by_:=by_) (bO hd) hx hy ho hs (by simp_all) (FD henc zs)
 rwa [UD] at this
theorem Zg{o:Nat}{rt:TypeId}{ob:Laa}(ho:go ob o=ς (.row rt sz els ζ ζ):=by exact rfl):cB N ⟨sl,ob,nx⟩ ⟨sl,(o,.row rt sz els η ζ)::ob,nx⟩:=by
 intro cx E a w hR
 refine⟨E,hR.ok,hR.dom,λl x hl=>?_,hR.sl,hR.dfr,hR.size,hR.td⟩
 by_cases e:o=l
 .subst e
  rw[bM] at hl;cases hl
  obtain⟨b,c,arr,hr,hh,h1,h2,h3,h4,h5,h6,h7⟩:=hR.obs _ _ ho
  exact⟨b,c,arr,hr,hh,h1,h2,h3,h4,bS (λ_ _=>rfl) (λb hb=>hR.ok.gf b hb) rfl _ _ h5,h6,(λhm=>by cases hm),θ⟩
 rw[a9 _ _ e] at hl;exact hR.obs l x hl
end
def dCs:List C->Option (List D)
 |[]=>ς []
 | .d (.b _) d::r=>(dCs r).map (d:: ·)
 |_=>ξ
def tAV:List T->Option (List AV)
 |[]=>ς []
 | .v (.agg cs)::r=>(dCs cs).bind λds=>(tAV r).map (.agg ds:: ·)
 | .v (.c (.d (.b _) d))::r=>(tAV r).map (.c d:: ·)
 |_=>ξ
theorem Qk{E:Env}{w:World}{F:Nat->Prop}(hH:∀(g:Bool),E.H g=F):∀{cs:List C} {ds:List D} {us:Lae},dCs cs=ς ds->DV w F ds us->CV E w cs us
 |[],ds,us,h,hd=>by
  cases h
  cases us with
  |nil=>trivial
  |cons u us=>exact hd.elim
 | .d (.b g) d::r,ds,us,h,hd=>by
  cases e:dCs r with
  |none=>simp[dCs,e] at h
  |some x=>
   simp[dCs,e] at h;subst h
   cases us with
   |nil=>exact hd.elim
   |cons u us=>exact⟨by show rdD w (E.H g) d u;rw[hH];exact hd.1,Qk hH e hd.2⟩
theorem K5{E:Env}{w:World}{F:Nat->Prop}(hH:∀(g:Bool),E.H g=F):∀{ts:List T} {as:List AV} {us:Lae},tAV ts=ς as->AR w F as us->TV E w ts us
 |[],as,us,h,hd=>by
  cases h
  cases us with
  |nil=>trivial
  |cons u us=>exact hd.elim
 | .v (.agg cs)::r,as,us,h,hd=>by
  cases e1:dCs cs with
  |none=>simp[tAV,e1] at h
  |some ds=>
   cases e2:tAV r with
   |none=>simp[tAV,e1,e2] at h
   |some x=>
    simp[tAV,e1,e2] at h;subst h
    cases us with
    |nil=>exact hd.elim
    |cons u us=>
     obtain⟨⟨arr,hu,hv⟩,h2⟩:=hd
     exact⟨⟨arr,hu,Qk hH e1 hv⟩,K5 hH e2 h2⟩
 | .v (.c (.d (.b g) d))::r,as,us,h,hd=>by
  cases e2:tAV r with
  |none=>simp[tAV,e2] at h
  |some x=>
   simp[tAV,e2] at h;subst h
   cases us with
   |nil=>exact hd.elim
   |cons u us=>exact⟨by show rdD w (E.H g) d u;rw[hH];exact hd.1,K5 hH e2 hd.2⟩
theorem FnV.pure{args:List T}{as:List AV}{r:Bool}(h:FnV P f [] args [] (.v (.c (.d η (.b r)))) [])(ha:tAV args=ς as:=by exact rfl):Fn P f as [.c (.d (.b r))]:=by
 refine⟨h.enters,λF w vals hF hT hA=>?_⟩
 have hI:VIn {E0 0 0 F with r:=λ_=>ξ,G:=F} w:=⟨hF,λ_ h=>h,λo b c h=>(by cases h),λo o' b c c' h=>(by cases h),λ_ _ h=>h.elim,λ_ _ _ h=>h.elim,λ_ _ _ h=>h,λ_ h=>h⟩
 refine(h.calls {E0 0 0 F with r:=λ_=>ξ,G:=F} w vals hI hT (λk hk o c h=>by cases h) (λl x h=>by cases h) (K5 (λg=>by cases g<;>rfl) ha hA)).mono ?_
 rintro en w' ⟨v,E',hen,vo,hv,_,_⟩
 refine⟨v,λ_=>False,[],hen,⟨vo.past.os,vo.past.tape,vo.past.output,vo.past.size,λk hk hW=>vo.past.block k hk (λh=>h.elim (λ⟨o,c',ho⟩=>by cases ho) (λ⟨_,h⟩=>h))⟩,λb h=>h.elim,⟨rfl,?_⟩,by simp⟩
 have:rdD w' (E'.H η) (.b r) v:=hv
 simpa [rdD] using this
theorem wkz(hr:R)(h:R->G:=by intro h;(repeat' (first|refine E8 ?_|refine pZ ?_|refine AI ?_|refine tJ ?_|refine sq rfl ?_|refine pU rfl ?_|refine E7 ?_|refine Bi ?_|refine tn ?_|refine tr ?_|refine zn ?_|refine Bh ?_|refine te ?_|refine bx rfl ?_|refine bo rfl ?_|refine bn ?_|refine br ?_|refine JW (by kernel_rfl) rfl ?_|((first|apply uJ rfl|apply Bl rfl rfl rfl rfl|apply s3 rfl|apply LO rfl rfl rfl rfl); · first|exact op rfl rfl rfl rfl|exact opa rfl rfl rfl rfl|exact oq rfl rfl rfl|exact oqa rfl rfl rfl|exact fp rfl rfl rfl|exact fq rfl rfl rfl|exact fe rfl rfl rfl|exact io rfl rfl rfl rfl|exact se rfl rfl rfl|exact bq rfl rfl rfl|exact qe rfl rfl rfl rfl rfl rfl rfl|exact sn rfl rfl rfl|exact bne rfl rfl rfl|exact qn rfl rfl rfl rfl rfl rfl rfl|exact mv1 rfl rfl|exact mv2 rfl rfl|exact mv3 rfl rfl|exact as1 rfl rfl|exact as2 rfl rfl|exact as3 rfl rfl|exact ldT rfl rfl|exact ld rfl rfl|exact lw rfl rfl|exact lwn rfl rfl|exact ls rfl rfl|exact ln rfl rfl|exact XQ rfl rfl|exact lz rfl rfl|exact fz rfl rfl rfl|exact oz rfl rfl rfl|exact oza rfl rfl rfl|exact un rfl rfl|exact ng rfl rfl|exact ba rfl rfl rfl|exact bc rfl rfl rfl rfl|exact al rfl rfl|exact pk1 rfl rfl rfl|exact pk0 rfl rfl rfl|exact ex rfl rfl rfl|exact nc rfl rfl|exact fv rfl rfl rfl|exact fva rfl rfl rfl|exact bd rfl rfl rfl|exact bs rfl rfl rfl rfl rfl rfl rfl rfl|exact cv rfl rfl|exact bt1 rfl rfl|exact ib rfl rfl rfl rfl)|(apply iu rfl; · first|exact sp rfl rfl rfl rfl rfl rfl rfl|exact stz rfl rfl rfl rfl)|refine gs rfl rfl rfl rfl rfl rfl ?_|refine zgs rfl rfl rfl rfl rfl rfl rfl ?_|fail));exact h):G:=h hr
theorem wkb(hr:R)(h:R->G:=by intro h;(repeat' (first|refine E8 ?_|refine pZ ?_|refine AI ?_|refine tJ ?_|refine sq rfl ?_|refine pU rfl ?_|refine E7 ?_|refine Bi ?_|refine tn ?_|refine tr ?_|refine zn ?_|refine Bh ?_|refine te ?_|refine bx rfl ?_|refine bo rfl ?_|refine bn ?_|refine br ?_|refine JW (by kernel_rfl) rfl ?_|((first|apply uJ rfl|apply Bl rfl rfl rfl rfl|apply s3 rfl|apply LO rfl rfl rfl rfl); · first|exact op rfl rfl rfl rfl|exact opa rfl rfl rfl rfl|exact oq rfl rfl rfl|exact oqa rfl rfl rfl|exact fp rfl rfl rfl|exact fq rfl rfl rfl|exact fe rfl rfl rfl|exact io rfl rfl rfl rfl|exact se rfl rfl rfl|exact bq rfl rfl rfl|exact qe rfl rfl rfl rfl rfl rfl rfl|exact sn rfl rfl rfl|exact bne rfl rfl rfl|exact qn rfl rfl rfl rfl rfl rfl rfl|exact mv1 rfl rfl|exact mv2 rfl rfl|exact mv3 rfl rfl|exact as1 rfl rfl|exact as2 rfl rfl|exact as3 rfl rfl|exact ldT rfl rfl|exact ld rfl rfl|exact lw rfl rfl|exact lwn rfl rfl|exact ls rfl rfl|exact ln rfl rfl|exact XQ rfl rfl|exact lz rfl rfl|exact fz rfl rfl rfl|exact oz rfl rfl rfl|exact oza rfl rfl rfl|exact un rfl rfl|exact ng rfl rfl|exact ba rfl rfl rfl|exact bc rfl rfl rfl rfl|exact al rfl rfl|exact pk1 rfl rfl rfl|exact pk0 rfl rfl rfl|exact ex rfl rfl rfl|exact nc rfl rfl|exact fv rfl rfl rfl|exact fva rfl rfl rfl|exact bd rfl rfl rfl|exact cv rfl rfl|exact bt1 rfl rfl|exact ib rfl rfl rfl rfl)|(apply iu rfl; · first|exact sp rfl rfl rfl rfl rfl rfl rfl|exact stz rfl rfl rfl rfl)|refine gs rfl rfl rfl rfl rfl rfl ?_|refine zgs rfl rfl rfl rfl rfl rfl rfl ?_|fail));exact h):G:=h hr
inductive F where
 |s (d:D)
 |l (t z:Nat) (e:Lad) (n:Nat)
inductive LM where
 |t
 |f
 |z
 |w (o:Nat)
 |n (o:Nat)
def LM.c:LM->Lad->Nat->C
 | .t,e,_=>.d ζ (.l e)
 | .f,e,_=>.d η (.l e)
 | .z,_,_=>.nil
 | .w o,_,k=>.w o k
 | .n o,_,k=>.wn o k
def kM:List LM->List F->List C
 |ms,.s d::r=>.d η d::kM ms r
 |m::ms,.l _ _ e n::r=>m.c e n::kM ms r
 |_,_=>[]
def LM.o:LM->Nat->Nat->Lad->Laa->Laa
 | .w o,a,b,e,r=>(o,.row a b e ζ ζ)::r
 | .n o,a,b,e,r=>(o,.rown a b e ζ)::r
 |_,_,_,_,r=>r
def rM:List LM->List F->Laa->Laa
 |ms,.s _::r,q=>rM ms r q
 |m::ms,.l t z e _::r,q=>m.o t z e (rM ms r q)
 |_,_,q=>q
def oM(ms:List LM)(o ty:Nat)(x:List F):Laa:=rM ms x [(o,.var ty (kM ms x))]
inductive RM where
 |d
 |o
 |z
def RM.c:RM->Nat->Nat->Lad->Nat->RC
 | .d,_,_,e,_=>.d (.l e)
 | .o,a,b,e,n=>.own a b e n
 | .z,_,_,_,_=>.nil
def qM:List RM->List F->List RC
 |ms,.s d::r=>.d d::qM ms r
 |m::ms,.l t z e n::r=>m.c t z e n::qM ms r
 |_,_=>[]
abbrev tP(o:Nat):T:=.v (.c (.p o 0))
section
variable{P:Program}{N:Nat}{st st':St}{i:Inf}{d:Tmp}{ty t t2:TypeId}{x y z:Operand}{f:Nat}{bo:BinOp}{uo:UnOp}{as:Array Operand}{tys:Array TypeId}{ps:String}{af:Array Edge}{gd:Option (Nat×Bool)}
theorem kMv(h:NS P N ⟨ς d,.move x,ty,ps,af,gd⟩ st st' i):NS P N ⟨ς d,.move x,ty,ps,af,gd⟩ st st' i:=h
theorem kLd(h:NS P N ⟨ς d,.load t x,ty,ps,af,gd⟩ st st' i):NS P N ⟨ς d,.load t x,ty,ps,af,gd⟩ st st' i:=h
theorem kAs(h:NS P N ⟨ς d,.assign x,ty,ps,af,gd⟩ st st' i):NS P N ⟨ς d,.assign x,ty,ps,af,gd⟩ st st' i:=h
theorem kFa(h:NS P N ⟨ς d,.fieldAddr t x f,ty,ps,af,gd⟩ st st' i):NS P N ⟨ς d,.fieldAddr t x f,ty,ps,af,gd⟩ st st' i:=h
theorem kBo(h:NS P N ⟨ς d,.binOp bo t x y t2,ty,ps,af,gd⟩ st st' i):NS P N ⟨ς d,.binOp bo t x y t2,ty,ps,af,gd⟩ st st' i:=h
theorem kLn(h:NS P N ⟨ς d,.call ⟨.builtin .len,as,tys⟩,ty,ps,af,gd⟩ st st' i):NS P N ⟨ς d,.call ⟨.builtin .len,as,tys⟩,ty,ps,af,gd⟩ st st' i:=h
theorem kUn(h:NS P N ⟨ς d,.unOp uo t x,ty,ps,af,gd⟩ st st' i):NS P N ⟨ς d,.unOp uo t x,ty,ps,af,gd⟩ st st' i:=h
theorem kFv(h:NS P N ⟨ς d,.field t x f,ty,ps,af,gd⟩ st st' i):NS P N ⟨ς d,.field t x f,ty,ps,af,gd⟩ st st' i:=h
theorem kPk(h:NS P N ⟨ς d,.pick x y z,ty,ps,af,gd⟩ st st' i):NS P N ⟨ς d,.pick x y z,ty,ps,af,gd⟩ st st' i:=h
theorem kBx(h:NS P N ⟨ς d,.box t x,ty,ps,af,gd⟩ st st' i):NS P N ⟨ς d,.box t x,ty,ps,af,gd⟩ st st' i:=h
theorem kCv(h:NS P N ⟨ς d,.convert t t2 x,ty,ps,af,gd⟩ st st' i):NS P N ⟨ς d,.convert t t2 x,ty,ps,af,gd⟩ st st' i:=h
end
theorem wJ(h:R->G:=by(intro h;(repeat' (first|refine E8 ?_|refine pZ ?_|refine AI ?_|refine tJ ?_|refine sq rfl ?_|refine pU rfl ?_|refine E7 ?_|refine Bi ?_|refine tn ?_|refine tr ?_|refine zn ?_|refine Bh ?_|refine te ?_|refine bx rfl ?_|refine bo rfl ?_|refine bn ?_|refine br ?_|refine JW (by kernel_rfl) rfl ?_|refine Xt ⟨by kernel_rfl,?_⟩|((first|apply uJ rfl|apply Bl rfl rfl rfl rfl|apply s3 rfl|apply LO rfl rfl rfl rfl|apply dr_n rfl|apply Qu rfl rfl rfl rfl); · first|(apply kMv;first|exact mv1 rfl rfl|exact mv2 rfl rfl|exact mv3 rfl rfl)|(apply kLd;first|exact op rfl rfl rfl rfl|exact opa rfl rfl rfl rfl|exact oq rfl rfl rfl|exact oqa rfl rfl rfl|exact oz rfl rfl rfl|exact oza rfl rfl rfl)|(apply kAs;first|exact as1 rfl rfl|exact as2 rfl rfl|exact as3 rfl rfl)|(apply kFa;first|exact fp rfl rfl rfl|exact fq rfl rfl rfl|exact fe rfl rfl rfl|exact fz rfl rfl rfl)|(apply kBo;first|exact iqT rfl rfl rfl rfl|exact iqF rfl rfl rfl rfl|exact io rfl rfl rfl rfl|exact se rfl rfl rfl|exact bq rfl rfl rfl|exact qe rfl rfl rfl rfl rfl rfl rfl|exact sn rfl rfl rfl|exact bne rfl rfl rfl|exact qn rfl rfl rfl rfl rfl rfl rfl|exact ib rfl rfl rfl rfl)|exact nc rfl rfl|(apply kLn;first|exact ldT rfl rfl|exact ld rfl rfl|exact lw rfl rfl|exact lwn rfl rfl|exact ls rfl rfl|exact ln rfl rfl|exact XQ rfl rfl|exact lz rfl rfl)|exact bd rfl rfl rfl|exact bs rfl rfl rfl rfl rfl rfl rfl rfl|(apply kUn;first|exact un rfl rfl|exact ng rfl rfl)|(apply kFv;first|exact fv rfl rfl rfl|exact fva rfl rfl rfl)|exact al rfl rfl|exact ex rfl rfl rfl|(apply kPk;first|exact pk1 rfl rfl rfl|exact pk0 rfl rfl rfl)|(apply kBx;first|exact ba rfl rfl rfl|exact bc rfl rfl rfl rfl)|(apply kCv;first|exact cv rfl rfl|exact bt1 rfl rfl))|(apply iu rfl; · first|exact sp rfl rfl rfl rfl rfl rfl rfl|exact stz rfl rfl rfl rfl)|refine gs rfl rfl rfl rfl rfl rfl ?_|refine zgs rfl rfl rfl rfl rfl rfl rfl ?_|refine dgs rfl rfl rfl rfl rfl rfl rfl ?_|fail));exact h)):R->G:=h
theorem wI(hr:R)(h:R->G:=by exact wJ):G:=h hr
theorem wo{st':St}(h1:LeS st.sl st'.nx st'.sl:=by repeat (first|exact θ|refine⟨rfl,rfl,?_⟩|refine⟨wn rfl (by first|rfl|simp),rfl,?_⟩|refine⟨wnn rfl (by first|rfl|simp),rfl,?_⟩))(h2:LeO st.ob st'.nx st'.ob:=by repeat (first|exact θ|refine⟨rfl,⟨rfl,rfl⟩,?_⟩)):cB N st st':=dZ h1 h2
section
variable{P:Program}{N:Nat}{st st':St}{AQ:Exit->St->Prop}{ops:Array Oper}{l:List Oper}{o:Oper}{x:Inf}{K:St->Prop}{R:Prop}
theorem nA(h:NS P N o st st' x)(hr:R)(hg:o.guard=none:=by exact rfl)(w:R->AWR P N ops l st' K:=by exact wJ):AWR P N ops (o::l) st K:=uJ hg h (w hr)
theorem nG{dj:Tmp}{b:Bool}(h:NS P N o st st' x)(hr:R)(hg:o.guard=ς (j,b):=by exact rfl)(hj:(ops[j]?).bind (·.dst)=ς dj:=by exact rfl)(hdj:nlt dj N=true:=by exact rfl)(hb:gt st.sl dj=tB b:=by exact rfl)(w:R->AWR P N ops l st' K:=by exact wJ):AWR P N ops (o::l) st K:=Bl hg hj hdj hb h (w hr)
theorem sA(h:AWO P N o st st')(hr:R)(hg:o.guard=none:=by exact rfl)(w:R->AWR P N ops l st' K:=by exact wJ):AWR P N ops (o::l) st K:=iu hg h (w hr)
theorem sG{dj:Tmp}{b:Bool}(h:AWO P N o st st')(hr:R)(hg:o.guard=ς (j,b):=by exact rfl)(hj:(ops[j]?).bind (·.dst)=ς dj:=by exact rfl)(hdj:nlt dj N=true:=by exact rfl)(hb:gt st.sl dj=tB b:=by exact rfl)(w:R->AWR P N ops l st' K:=by exact wJ):AWR P N ops (o::l) st K:=jq hg hj (bO hdj) hb h (w hr)
theorem cC{c:Operand}{X Y:Code}{b:Bool}{p q r:Option α}{R0:Prop}(H:(bif b then p else q)=r)(h1:p=r->R1)(h0:q=r->R0)(hb:opT st.sl c=tB b:=by exact rfl)(w1:R1->AWC P N X st AQ:=by exact wJ)(w0:R0->AWC P N Y st AQ:=by exact wJ):AWC P N (.cond c X Y) st AQ:=
 nZ hb (λh=>w1 (h1 (bt h H))) (λh=>w0 (h0 (bf h H)))
theorem jA{X:Code}{R2:Prop}(M:St)[c:Clo N AQ](h1:R1)(h2:R2)(w1:R1->AWC P N X st (rW (λs=>cB N s M) AQ):=by exact wJ)(w2:R2->AQ .normal M:=by exact wJ):AWC P N X st AQ:=sX M (w1 h1) (w2 h2)
theorem jB{X:Code}{R2:Prop}(M:St)[c:Clo N AQ](h1:R1)(h2:R2)(w1:R1->AWC P N X st (iv id (rW (λs=>cB N s M) AQ)):=by exact wJ)(w2:R2->AQ .normal M:=by exact wJ):AWC P N X st (iv id AQ):=pY M (w1 h1) (w2 h2)
theorem jR{R2:Prop}(M:St)[c:Dc N K](h1:R1)(h2:R2)(w1:R1->AWR P N ops l st (λs=>cB N s M):=by exact wJ)(w2:R2->K M:=by exact wJ):AWR P N ops l st K:=Bk M (w1 h1) (w2 h2)
theorem zI(is:List Nat){ll:List Oper}{r:List (Nat×Oper)}(hr:R)(hm:P.follows .mixedOrders=true:=by exact Try.follows)(he:AO ll.toArray=true:=by kernel_rfl)(hc:JN ll.length is=true:=by kernel_rfl)(ho:Ce ll is=ς r:=by exact rfl)(w:R->DZ P N ll.toArray r [] [] [] st st (λs=>AQ .normal s):=by exact wJ):AWC P N (.region id ll.toArray ζ) st AQ:=wZ is hm he hc ho (w hr)
theorem dI{ll:List Oper}(hr:R)(hm:P.follows .mixedOrders=true:=by exact Try.follows)(hol:RU st.nx st.ob=true:=by exact rfl)(w:R->DR P N ll.toArray ll [] st (λis t=>xc ll.toArray is st.nx=ζ/\AQ .normal t):=by exact wJ):AWC P N (.region id ll.toArray ζ) st AQ:=P4 hm hol (w hr)
section
variable{KK:List Inf->St->Prop}{is:List Inf}
theorem dG{dj:Tmp}{b:Bool}(h:NS P N o st st' x)(hr:R)(hg:o.guard=ς (j,b):=by exact rfl)(hj:(ops[j]?).bind (·.dst)=ς dj:=by exact rfl)(hdj:nlt dj N=true:=by exact rfl)(hb:gt st.sl dj=tB b:=by exact rfl)(w:R->DR P N ops l (is++[{x with needs:=(.tmp dj,tB b)::x.needs}]) st' KK:=by exact wJ):DR P N ops (o::l) is st KK:=Qu hg hj hdj hb h (w hr)
end
section
variable{α:Type}{p q r:Option α}{R1 R0:Prop}{j:Nat}{dj:Tmp}{b c:Bool}{sl:Lab}{ob:Laa}{nx:Nat}
theorem gC(H:(bif c then p else q)=r)(h1:p=r->R1)(h0:q=r->R0)(hg:o.guard=ς (j,b):=by exact rfl)(hj:(ops[j]?).bind (·.dst)=ς dj:=by exact rfl)(hb:gt sl dj=tB c:=by exact rfl)(w1:R1->AWR P N ops (o::l) ⟨(dj,tB ζ)::sl,ob,nx⟩ K:=by exact wJ)(w0:R0->AWR P N ops (o::l) ⟨(dj,tB η)::sl,ob,nx⟩ K:=by exact wJ):AWR P N ops (o::l) ⟨sl,ob,nx⟩ K:=
 g2 hg hj hb (λh=>w1 (h1 (bt h H))) (λh=>w0 (h0 (bf h H)))
theorem dC{is:List Inf}{KK:List Inf->St->Prop}(H:(bif c then p else q)=r)(h1:p=r->R1)(h0:q=r->R0)(hg:o.guard=ς (j,b):=by exact rfl)(hj:(ops[j]?).bind (·.dst)=ς dj:=by exact rfl)(hb:gt sl dj=tB c:=by exact rfl)(w1:R1->DR P N ops (o::l) is ⟨(dj,tB ζ)::sl,ob,nx⟩ KK:=by exact wJ)(w0:R0->DR P N ops (o::l) is ⟨(dj,tB η)::sl,ob,nx⟩ KK:=by exact wJ):DR P N ops (o::l) is ⟨sl,ob,nx⟩ KK:=
 dg2 hg hj hb (λh=>w1 (h1 (bt h H))) (λh=>w0 (h0 (bf h H)))
end
section
variable{lz:List (Nat×Oper)}{dn seg:List Nat}{ys:List Inx}{base:St}{p:Nat}{y:Inx}
theorem zA(h:NS P N o st st' x)(hr:R)(hg:o.guard=none:=by exact rfl)(w:R->DZ P N ops lz dn (seg++[p]) (ys++[⟨x,[],ξ⟩]) base st' K:=by exact wJ):DZ P N ops ((p,o)::lz) dn seg ys base st K:=s3 hg h (w hr)
theorem wA(h:NX P N o st st' y)(hr:R)(hg:o.guard=none:=by exact rfl)(w:R->DZ P N ops lz dn (seg++[p]) (ys++[y]) base st' K:=by exact wJ):DZ P N ops ((p,o)::lz) dn seg ys base st K:=Qz hg h (w hr)
theorem zB{st0 st1 st2:St}{dn':List Nat}(hw:cB N st st0)(h:BO P N ops o st0 st1)(hw2:cB N st1 st2)(hr:R)(hs:vf ops dn seg ys=true:=by kernel_rfl)(hkl:kls ys=[]:=by exact rfl)(hb:Bn ops (seg++dn) p=true:=by kernel_rfl)(hlo:p::(seg++dn)=dn':=by exact rfl)(w:R->DZ P N ops lz dn' [] [] st2 st2 K:=by exact wJ):DZ P N ops ((p,o)::lz) dn seg ys base st K:=Fe hs hkl hb hw h hw2 hlo (w hr)
theorem zC{a q r:Option α}{R0:Prop}{dj:Tmp}{b c:Bool}{ob:Laa}(H:(bif c then a else q)=r)(h1:a=r->R1)(h0:q=r->R0)(hg:o.guard=ς (j,b):=by exact rfl)(hj:(ops[j]?).bind (·.dst)=ς dj:=by exact rfl)(hb:gt sl dj=tB c:=by exact rfl)(w1:R1->DZ P N ops ((p,o)::lz) dn seg ys base ⟨(dj,tB ζ)::sl,ob,nx⟩ K:=by exact wJ)(w0:R0->DZ P N ops ((p,o)::lz) dn seg ys base ⟨(dj,tB η)::sl,ob,nx⟩ K:=by exact wJ):DZ P N ops ((p,o)::lz) dn seg ys base ⟨sl,ob,nx⟩ K:=
 zg2 hg hj hb (λh=>w1 (h1 (bt h H))) (λh=>w0 (h0 (bf h H)))
end
theorem aW(hw:cB N st st')(hr:R)(w:R->AWR P N ops l st' K:=by exact wJ):AWR P N ops l st K:=ea hw (w hr)
theorem iT{c:Code}{σ ρ:Type}{step:σ->Option (ct σ ρ)}{x0:σ}{r:ρ}(H:iter step n x0=ς r)(S:σ->St)(round:∀x o,step x=ς o->AWC P N c (S x) (eZ N S r o AQ))(h0:cB N st (S x0):=by exact wo):AWC P N (.loop c) st AQ:=pV S H h0 round
end
theorem wB{ob:Laa}(o:Nat)(k:Nat)(hs:vx o k sl=ς sl':=by exact rfl)(ho:Dq o k ob=ς ob':=by exact rfl)(he:Eqs (Lj o k sl):=by repeat (first|exact θ|refine⟨by first|rfl|simp,?_⟩))(he2:Eqs (Jp o k ob):=by repeat (first|exact θ|refine⟨by first|rfl|simp,?_⟩)):cB N ⟨sl,ob,nx⟩ ⟨sl',ob',nx⟩:=qP hs ho he he2
theorem wS{ob:Laa}(p q:Nat)(hp:rsv p=false:=by exact rfl)(hq:rsv q=false:=by exact rfl)(hpn:nlt p nx=true:=by exact rfl)(hqn:nlt q nx=true:=by exact rfl):cB N ⟨sl,ob,nx⟩ ⟨swS p q sl,swO p q ob,nx⟩:=C6 hp hq hpn hqn
theorem fI{fn:Func}{c:Code}{args:List AV}{rs:List ResultVar}{res:List RV}{sl0:Lab}(hf:P.funcs[f]?=ς fn)(hN:fn.ntmps=N)(hr:R)(hb:fn.body=ς c:=by exact rfl)(hnm:(fn.name== "runtime.NumGoroutine")=false:=by kernel_rfl)(hrs:fn.results.toList=rs:=by exact rfl)(ha:Zw args.length N=true:=by exact rfl)(hs:E6 0 args=ς sl0:=by exact rfl)(w:R->AWC P N c ⟨sl0,[],0⟩ (tD N P rs res):=by exact wJ):Fn P f args res:=WB hf hb hnm hN hrs ha hs (w hr)
theorem fW{fn:Func}{c:Code}{args:List T}{rs:List ResultVar}{res:List RV}{sl0:Lab}(hf:P.funcs[f]?=ς fn)(hN:fn.ntmps=N)(hr:R)(hb:fn.body=ς c:=by exact rfl)(hnm:(fn.name== "runtime.NumGoroutine")=false:=by kernel_rfl)(hrs:fn.results.toList=rs:=by exact rfl)(ha:Zw args.length N=true:=by exact rfl)(hfx:x.free=true:=by exact rfl)(hfy:y.free=true:=by exact rfl)(hs:tG 0 args=sl0:=by exact rfl)(w:R->AWC P N c ⟨sl0,[(200,x)],210⟩ (pP N P rs res y):=by exact wJ):FnW P f x args y res:=QN hf hb hnm hN hrs ha hfx hfy hs (w hr)
theorem fV{fn:Func}{c:Code}{xs ys:Laa}{args:List T}{rs:List ResultVar}{nw:Laa}{sl0:Lab}(hf:P.funcs[f]?=ς fn)(hN:fn.ntmps=N)(hr:R)(hb:fn.body=ς c:=by exact rfl)(hnm:(fn.name== "runtime.NumGoroutine")=false:=by kernel_rfl)(hrs:fn.results.toList=rs:=by exact rfl)(ha:Zw args.length N=true:=by exact rfl)(hs:tG 0 args=sl0:=by exact rfl)(w:R->AWC P N c ⟨sl0,xs,210⟩ (mU N P rs ys out nw):=by exact wJ):FnV P f xs args ys out nw:=J0 hf hb hnm hN hrs ha hs (w hr)
theorem aa{β:Type}{p:Option α}{f:α->Option β}{y:β}(H:p.bind f=ς y)(k:∀x,p=ς x->f x=ς y->G):G:=by
 obtain⟨x,h1,h2⟩:=ob H
 exact k x h1 h2
theorem ai(H:p)(h:p->G:=by(intro H;cases H;exact wo)):G:=h H
theorem ao(H:p)(h:p->G:=by(intro H;cases H;exact kn)):G:=h H
theorem aN(H:p)(h:p->G:=by(intro H;cases H;refine uU ?_;exact wo)):G:=h H
theorem aE(H:p)(h:p->G:=by(intro H;cases H;refine Fw (λhq=>?_);cases hq;refine wI ?_;exact wo)):G:=h H
theorem aR{AQ:Exit->St->Prop}{σ ρ:Type}{m:Option ρ}{o:ct σ ρ}{S:σ->St}{r:ρ}{e:Exit}{s:St}(H:dn m=ς o)(k:m=ς r->R)(he:∀r',(r'=r->AQ e s)->eZ N S r (.done r') AQ e s:=by(intro r' h;first|exact Fw h|exact iq_r h))(w:R->AQ e s:=by exact wJ):eZ N S r o AQ e s:=by
 obtain⟨r0,Hd,rfl⟩:=dnE H
 exact he r0 λhq=>w (k (Hd.trans (congrArg ς hq)))
theorem aQ(H:p)(h:p->G:=by(intro H;refine aR H λH=>?_;exact ao H)):G:=h H
theorem ad(hr:R)(h:R->G:=by(intro h;(try dsimp only);revert h;exact wJ)):G:=h hr
theorem az(H:p)(h:p->G:=by(intro H;repeat' (first|(refine gC H ?_ ?_<;>intro H)|(refine cC H ?_ ?_<;>intro H)|exact ai H))):G:=h H
theorem ay(H:p)(h:p->G:=by(intro H;repeat' (first|(refine cC H ?_ ?_<;>intro H)|(refine gC H ?_ ?_<;>intro H)|exact ao H))):G:=h H
theorem au:(∀{α β:Type} (a:α) (f:α->Option β),Option.bind (ς a) f=f a)/\(∀{α:Type} (a b:α),cond ζ a b=a)/\(∀{α:Type} (a b:α),cond η a b=b)/\(!true)=η/\(!false)=true:=⟨λ_ _=>rfl,λ_ _=>rfl,λ_ _=>rfl,rfl,rfl⟩
def Gr.rg(f:Nat->Nat):Gr->Gr
 | .s l=>.s (f l)
 | .t l=>.t (f l)
 |g=>g
def C.rg(f:Nat->Nat):C->C
 | .d g x=>.d (g.rg f) x
 | .q g x j=>.q (g.rg f) x j
 | .r l x=>.r (f l) x
 |c=>c
def V.rg(f:Nat->Nat):V->V
 | .c y=>.c (y.rg f)
 | .agg cs=>.agg (cs.map (C.rg f))
def T.rg(f:Nat->Nat):T->T
 | .v y=>.v (y.rg f)
 | .tup vs=>.tup (vs.map (V.rg f))
 | .any=>.any
def Ob.rg(f:Nat->Nat):Ob->Ob
 | .var t cs=>.var t (cs.map (C.rg f))
 | .row t sz els g m=>.row t sz els (g.rg f) m
 | .rown t sz els g=>.rown t sz els (g.rg f)
 | .abs l h=>.abs (f l) h
def xn(f:Nat->Nat):Lab->Lab
 |[]=>[]
 |(k,t)::r=>(k,t.rg f)::xn f r
def uE(f:Nat->Nat):Laa->Laa
 |[]=>[]
 |(k,x)::r=>(k,x.rg f)::uE f r
def Env.rg(E:Env)(f:Nat->Nat):Env:={E with T:=λl b=>∃k,f k=l/\E.T k b}
section
variable{E:Env}{f:Nat->Nat}{w:World}
theorem IF(h:E.T l b):(E.rg f).T (f l) b:=⟨l,rfl,h⟩
theorem Sx:∀{g:Gr} {b:Nat},E.H g b->(E.rg f).H (g.rg f) b
 | .b η,_,h=>h
 | .b ζ,_,h=>h
 | .s _,_,h=>IF h
 | .t _,_,h=>IF h
theorem rg_gD:∀{g:Gr} {x:D} {u:Value},gD E w g x u->gD (E.rg f) w (g.rg f) x u
 | .b g,x,u,h=>bP (λ_ _=>rfl) (λb hb=>Sx (g:=.b g) hb) x u h
 | .s l,x,u,h=>bP (λ_ _=>rfl) (λb hb=>IF hb) x u h
 | .t l,x,u,h=>h.keep (λ_ _=>rfl) λb hb=>IF hb
theorem rg_G:∀{g:Gr},qR E w els b g->qR (E.rg f) w els b (g.rg f)
 | .b _,_=>trivial
 | .s l,h=>h.keep rfl (λ_ _=>rfl) λk hk=>IF hk
 | .t l,h=>h.keep rfl (λ_ _=>rfl) λk hk=>IF hk
theorem rg_C:∀{c:C} {u:Value},cvC E w c u->cvC (E.rg f) w (c.rg f) u
 | .d g x,u,h=>rg_gD h
 | .q g y j,u,⟨b,k,hu,hb,h⟩=>⟨b,k,hu,Sx hb,rdL_mono (λ_ _=>rfl) (λb hb=>Sx hb) y b k hb h⟩
 | .r l x,u,h=>bP (λ_ _=>rfl) (λb hb=>IF hb) x u h
 | .w ..,_,h=>h
 | .s ..,_,h=>h
 | .p ..,_,h=>h
 | .e ..,_,h=>h
 | .fn ..,_,h=>h
 | .nil,_,h=>h
 | .any,_,h=>h
 | .z ..,_,h=>h
 | .zq ..,_,h=>h
 | .wn ..,_,h=>h
theorem Sw:∀{cs:List C} {us:Lae},CV E w cs us->CV (E.rg f) w (cs.map (C.rg f)) us
 |[],[],_=>trivial
 |_::_,_::_,h=>⟨rg_C h.1,Sw h.2⟩
 |[],_::_,h=>h.elim
 |_::_,[],h=>h.elim
theorem rg_V{v:V}(h:cvV E w v u):cvV (E.rg f) w (v.rg f) u:=by
 cases v with
 |c c=>exact rg_C h
 |agg cs=>obtain⟨arr,hu,h⟩:=h;exact⟨arr,hu,Sw h⟩
theorem WN:∀{cs:List V} {us:Lae},VV E w cs us->VV (E.rg f) w (cs.map (V.rg f)) us
 |[],[],_=>trivial
 |_::_,_::_,h=>⟨rg_V h.1,WN h.2⟩
 |[],_::_,h=>h.elim
 |_::_,[],h=>h.elim
theorem WM{t:T}(h:cvT E w t u):cvT (E.rg f) w (t.rg f) u:=by
 cases t with
 |v v=>exact rg_V h
 |tup ts=>obtain⟨arr,hu,h⟩:=h;exact⟨arr,hu,WN h⟩
 |any=>trivial
theorem rg_O{o:Nat}{ob:Ob}(h:cg E w o ob):cg (E.rg f) w o (ob.rg f):=by
 cases ob with
 |var ty cs=>obtain⟨b,c,arr,hr,hh,hc,hF⟩:=h;exact⟨b,c,arr,hr,hh,Sw hc,hF⟩
 |row ty sz els g m=>
  obtain⟨b,c,arr,hr,h1,h2,h3,h4,h5,h6,h7,h8,h9⟩:=h
  refine⟨b,c,arr,hr,h1,h2,h3,h4,h5,bS (λ_ _=>rfl) (λb hb=>Sx hb) rfl _ _ h6,h7,λhm=>⟨(h8 hm).1,λhg=>(h8 hm).2 ?_⟩,rg_G h9⟩
  cases g<;>simp_all [Gr.rg]
 |rown ty sz els g=>
  rcases h with h|⟨h0,b,c,arr,hr,h1,h2,h3,h4,h5,h6,h7,h8⟩
  .exact .inl h
  exact .inr ⟨h0,b,c,arr,hr,h1,h2,h3,h4,h5,bS (λ_ _=>rfl) (λb hb=>Sx hb) rfl _ _ h6,h7,rg_G h8⟩
 |abs l y=>
  rcases h with h|⟨h0,b,c,hr,h1,h2⟩
  .exact .inl h
  exact .inr ⟨h0,b,c,hr,y.st b c _ _ w w h1 (λk hk=>IF hk) rfl (λ_ _=>rfl),h2⟩
end
theorem Fq{f:Nat->Nat}:∀(sl:Lab) (k:Nat),gt (xn f sl) k=(gt sl k).rg f
 |[],k=>rfl
 |(j,t)::r,k=>by
  simp only[xn,gt]
  cases d0 j k
  .exact Fq r k
  rfl
theorem Fp{f:Nat->Nat}:∀(ob:Laa) (k:Nat),go (uE f ob) k=(go ob k).map (Ob.rg f)
 |[],k=>rfl
 |(j,t)::r,k=>by
  simp only[uE,go]
  cases d0 j k
  .exact Fp r k
  rfl
theorem M8{cx:Cx}{f:Nat->Nat}(s:wm cx E w):wm cx (E.rg f) w:=
 ⟨λl b ⟨k,_,h⟩=>s.tb k b h,λl l' b ⟨k,h1,h2⟩ ⟨k',h1',h2'⟩=>by have:=s.tt k k' b h2 h2';grind,s.zc,s.zs,s.ze⟩
def mg(a o k:Nat):Nat:=bif d0 k a then o else k
theorem zQ(x:eg q E w E' w){o:Nat}{ob:Ob}(ho:o≠q)(h1:ob.hasO q=η)(hF:∀b c,E.r o=ς (b,c)->¬E.F b->¬E'.F b)(h:cg E w o ob):cg E' w o ob:=by
 cases ob with
 |var ty cs=>
  obtain⟨b,c,arr,hr,hh',hc,hf⟩:=h
  exact⟨b,c,arr,x.r _ _ ho hr,hh',EM x h1 hc,hF b c hr hf⟩
 |row ty sz els g m=>
  obtain⟨b,c,arr,hr,hh',a1,a2,a3,a4,a5,a6,a7⟩:=h
  exact⟨b,c,arr,x.r _ _ ho hr,hh',a1,a2,a3,a4,bS (x.hp g) (x.HH g) rfl _ _ a5,λhm=>hF b c hr (a6 hm),λhm=>⟨x.H η b (a7.1 hm).1,λhg=>x.H ζ b ((a7.1 hm).2 hg)⟩,kU x rfl a7.2⟩
 |rown ty sz els g=>
  rcases h with⟨h0,h1⟩|⟨h0,b,c,arr,hr,hh',a1,a2,a3,a4,a5,a6⟩
  .exact .inl ⟨(x.n o ho).2 h0,h1⟩
  exact .inr ⟨λh=>h0 ((x.n o ho).1 h),b,c,arr,x.r _ _ ho hr,hh',a1,a2,a3,a4,bS (x.hp g) (x.HH g) rfl _ _ a5,hF b c hr a6.1,kU x rfl a6.2⟩
 |abs j y=>
  rcases h with⟨h0,h1⟩|⟨h0,b,c,hr,a1,a2⟩
  .exact .inl ⟨(x.n o ho).2 h0,h1⟩
  exact .inr ⟨λh=>h0 ((x.n o ho).1 h),b,c,x.r _ _ ho hr,y.st _ _ _ _ _ _ a1 (λk hk=>(x.T j k hk).1) rfl (λ_ _=>rfl),hF b c hr a2⟩
theorem trAny{o:Nat}(hk:eg o E w E' w){c:C}(hc:cvC E w c u):cvC E' w (bif c.has o then .any else c) u:=by
 cases h:c.has o
 .exact xU hk h hc
 trivial
def Tu(o:Nat)(x:D)(g:Nat)(k:Nat):C->Option (C×Lac)
 | .wn l n=>match d0 l o with
  |true=>ς (.d (.t g) x,[(k,n)])
  |false=>ς (.wn l n,[])
 |c=>ς (bif c.has o then .any else c,[])
def ED(o:Nat)(x:D)(g:Nat)(k:Nat):List C->Option (List C×Lac)
 |[]=>ς ([],[])
 |c::cs=>match Tu o x g k c,ED o x g k cs with
  |some (x,e),ς (xs,es)=>ς (x::xs,e++es)
  |_,_=>ξ
def Tw(o:Nat)(x:D)(g:Nat)(k:Nat):V->Option (V×Lac)
 | .c c=>match Tu o x g k c with
  |some (x,e)=>ς (.c x,e)
  |none=>ξ
 | .agg cs=>match ED o x g k cs with
  |some (x,e)=>ς (.agg x,e)
  |none=>ξ
def Ji(o:Nat)(x:D)(g:Nat)(k:Nat):List V->Option (List V×Lac)
 |[]=>ς ([],[])
 |c::cs=>match Tw o x g k c,Ji o x g k cs with
  |some (x,e),ς (xs,es)=>ς (x::xs,e++es)
  |_,_=>ξ
def Tv(o:Nat)(x:D)(g:Nat)(k:Nat):T->Option (T×Lac)
 | .v v=>match Tw o x g k v with
  |some (x,e)=>ς (.v x,e)
  |none=>ξ
 | .tup vs=>match Ji o x g k vs with
  |some (x,e)=>ς (.tup x,e)
  |none=>ξ
 | .any=>ς (.any,[])
def Pf(o:Nat)(x:D)(g:Nat)(k:Nat):Lab->Option (Lab×Lac)
 |[]=>ς ([],[])
 |(j,t)::r=>match Tv o x g k t,Pf o x g k r with
  |some (x,e),ς (xs,es)=>ς ((j,x)::xs,e++es)
  |_,_=>ξ
def uG(o:Nat)(x:D)(g:Nat)(k:Nat):Laa->Option (Laa×Lac)
 |[]=>ς ([],[])
 |(j,.var t cs)::r=>match d0 j o with
  |true=>ξ
  |false=>match ED o x g k cs,uG o x g k r with
   |some (x,e),ς (xs,es)=>ς ((j,.var t x)::xs,e++es)
   |_,_=>ξ
 |(j,.row t sz els gg m)::r=>match uG o x g k r with
  |some (xs,es)=>match d0 j o with
   |true=>ς (xs,es)
   |false=>ς ((j,.row t sz els gg m)::xs,es)
  |none=>ξ
 |(j,.rown t sz els gg)::r=>match uG o x g k r with
  |some (xs,es)=>match d0 j o with
   |true=>ς (xs,es)
   |false=>ς ((j,.rown t sz els gg)::xs,es)
  |none=>ξ
 |(j,.abs i y)::r=>match uG o x g k r with
  |some (xs,es)=>match d0 j o with
   |true=>ς (xs,es)
   |false=>ς ((j,.abs i y)::xs,es)
  |none=>ξ
section
variable{E E':Env}{w:World}{o k:Nat}{x:D}{g:Nat}(hd:∀u,cvC E w (.wn o k) u->cvC E' w (.d (.t g) x) u)(hk:eg o E w E' w)
include hd hk
theorem Ni{c c':C}{e:Lac}(h:Tu o x g k c=ς (c',e))(he:Eqs e)(hc:cvC E w c u):cvC E' w c' u:=by
 cases c with
 |wn l n=>
  simp only[Tu] at h
  split at h
  .rename_i hb
   have:=Zo hb
   subst this
   simp at h;obtain⟨rfl,rfl⟩:=h
   have hn:k=n:=he.1
   simp_all
  rename_i hb
  simp at h;obtain⟨rfl,rfl⟩:=h;exact xU hk hb hc
 |_=>
  simp only[Tu,Option.some.injEq,Prod.mk.injEq] at h;obtain⟨rfl,rfl⟩:=h
  exact trAny hk hc
theorem C4:∀{cs cs':List C} {e:Lac} {us:Lae},ED o x g k cs=ς (cs',e)->Eqs e->CV E w cs us->CV E' w cs' us
 |[],cs',e,us,h,_,hc=>by
  simp[ED] at h;obtain⟨rfl,rfl⟩:=h
  cases us with
  |nil=>trivial
  |cons _ _=>exact hc.elim
 |c::cs,cs',e,us,h,he,hc=>by
  cases us with
  |nil=>exact hc.elim
  |cons u us=>
   simp only[ED] at h
   split at h
   .rename_i h1 h2
    simp at h;obtain⟨rfl,rfl⟩:=h
    obtain⟨k1,k2⟩:=dq he
    exact⟨Ni hd hk h1 k1 hc.1,C4 h2 k2 hc.2⟩
   cases h
theorem Nj{v v':V}{e:Lac}(h:Tw o x g k v=ς (v',e))(he:Eqs e)(hv:cvV E w v u):cvV E' w v' u:=by
 cases v with
 |c c=>
  simp only[Tw] at h
  split at h
  .rename_i h1;simp at h;obtain⟨rfl,rfl⟩:=h;exact Ni hd hk h1 he hv
  cases h
 |agg cs=>
  simp only[Tw] at h
  split at h
  .rename_i h1;simp at h;obtain⟨rfl,rfl⟩:=h;obtain⟨arr,hu,hc⟩:=hv;exact⟨arr,hu,C4 hd hk h1 he hc⟩
  cases h
theorem Jj:∀{cs cs':List V} {e:Lac} {us:Lae},Ji o x g k cs=ς (cs',e)->Eqs e->VV E w cs us->VV E' w cs' us
 |[],cs',e,us,h,_,hc=>by
  simp[Ji] at h;obtain⟨rfl,rfl⟩:=h
  cases us with
  |nil=>trivial
  |cons _ _=>exact hc.elim
 |c::cs,cs',e,us,h,he,hc=>by
  cases us with
  |nil=>exact hc.elim
  |cons u us=>
   simp only[Ji] at h
   split at h
   .rename_i h1 h2
    simp at h;obtain⟨rfl,rfl⟩:=h
    obtain⟨k1,k2⟩:=dq he
    exact⟨Nj hd hk h1 k1 hc.1,Jj h2 k2 hc.2⟩
   cases h
theorem Wg{v v':T}{e:Lac}(h:Tv o x g k v=ς (v',e))(he:Eqs e)(hv:cvT E w v u):cvT E' w v' u:=by
 cases v with
 |v v=>
  simp only[Tv] at h
  split at h
  .rename_i h1;simp at h;obtain⟨rfl,rfl⟩:=h;exact Nj hd hk h1 he hv
  cases h
 |tup vs=>
  simp only[Tv] at h
  split at h
  .rename_i h1;simp at h;obtain⟨rfl,rfl⟩:=h;obtain⟨arr,hu,hc⟩:=hv;exact⟨arr,hu,Jj hd hk h1 he hc⟩
  cases h
 |any=>simp[Tv] at h;obtain⟨rfl,rfl⟩:=h;trivial
theorem Gz{j:Nat}{u:Value}:∀{sl sl':Lab} {e:Lac},Pf o x g k sl=ς (sl',e)->Eqs e->cvT E w (gt sl j) u->cvT E' w (gt sl' j) u
 |[],sl',e,h,_,_=>by simp[Pf] at h;obtain⟨rfl,rfl⟩:=h;trivial
 |(i,t)::r,sl',e,h,he,hc=>by
  simp only[Pf] at h
  split at h
  .rename_i h1 h2
   simp at h;obtain⟨rfl,rfl⟩:=h
   obtain⟨k1,k2⟩:=dq he
   by_cases hj:i=j
   .subst hj;rw[cG] at hc ⊢;exact Wg hd hk h1 k1 hc
   rw[b7 _ _ hj] at hc ⊢;exact Gz h2 k2 hc
  cases h
theorem pC{l:Nat}{y:Ob}(hlo:l≠o)(hF:∀b c,E.r l=ς (b,c)->¬E.F b->¬E'.F b):∀{ob ob':Laa} {e:Lac},uG o x g k ob=ς (ob',e)->Eqs e->go ob' l=ς y->(∀y,go ob l=ς y->cg E w l y)->cg E' w l y
 |[],ob',e,h,_,hy,_=>by simp[uG] at h;obtain⟨rfl,rfl⟩:=h;cases hy
 |(i,.var t cs)::r,ob',e,h,he,hy,hb=>by
  simp only[uG] at h
  split at h
  .cases h
  split at h
  .rename_i a1 a2
   simp at h;obtain⟨rfl,rfl⟩:=h
   obtain⟨k1,k2⟩:=dq he
   by_cases hi:i=l
   .subst hi
    rw[bM] at hy;cases hy
    obtain⟨b,c,arr,q1,q2,q3,q4⟩:=hb _ (bM _ _ _)
    exact⟨b,c,arr,hk.r _ _ hlo q1,q2,C4 hd hk a1 k1 q3,hF b c q1 q4⟩
   rw[a9 _ _ hi] at hy
   exact pC hlo hF a2 k2 hy (λy hy=>hb y (by rw[a9 _ _ hi];exact hy))
  cases h
 |(i,.row t sz els gg m)::r,ob',e,h,he,hy,hb=>by
  simp only[uG] at h
  split at h
  .rename_i a2
   split at h
   .rename_i hb2
    simp at h;obtain⟨rfl,rfl⟩:=h
    have hio:=Zo hb2
    exact pC hlo hF a2 he hy (λy hy=>hb y (by rw[a9 _ _ (λe=>hlo (e.symm.trans hio))];exact hy))
   simp at h;obtain⟨rfl,rfl⟩:=h
   by_cases hi:i=l
   .subst hi
    rw[bM] at hy;cases hy
    exact zQ hk hlo rfl (λb c hr=>hF b c hr) (hb _ (bM _ _ _))
   rw[a9 _ _ hi] at hy
   exact pC hlo hF a2 he hy (λy hy=>hb y (by rw[a9 _ _ hi];exact hy))
  cases h
 |(i,.rown t sz els gg)::r,ob',e,h,he,hy,hb=>by
  simp only[uG] at h
  split at h
  .rename_i a2
   split at h
   .rename_i hb2
    simp at h;obtain⟨rfl,rfl⟩:=h
    have hio:=Zo hb2
    exact pC hlo hF a2 he hy (λy hy=>hb y (by rw[a9 _ _ (λe=>hlo (e.symm.trans hio))];exact hy))
   simp at h;obtain⟨rfl,rfl⟩:=h
   by_cases hi:i=l
   .subst hi
    rw[bM] at hy;cases hy
    exact zQ hk hlo rfl (λb c hr=>hF b c hr) (hb _ (bM _ _ _))
   rw[a9 _ _ hi] at hy
   exact pC hlo hF a2 he hy (λy hy=>hb y (by rw[a9 _ _ hi];exact hy))
  cases h
 |(i,.abs _ _)::r,ob',e,h,he,hy,hb=>by
  simp only[uG] at h
  split at h
  .rename_i a2
   split at h
   .rename_i hb2
    simp at h;obtain⟨rfl,rfl⟩:=h
    have hio:=Zo hb2
    exact pC hlo hF a2 he hy (λy hy=>hb y (by rw[a9 _ _ (λe=>hlo (e.symm.trans hio))];exact hy))
   simp at h;obtain⟨rfl,rfl⟩:=h
   by_cases hi:i=l
   .subst hi
    rw[bM] at hy;cases hy
    exact zQ hk hlo rfl (λb c hr=>hF b c hr) (hb _ (bM _ _ _))
   rw[a9 _ _ hi] at hy
   exact pC hlo hF a2 he hy (λy hy=>hb y (by rw[a9 _ _ hi];exact hy))
  cases h
end
theorem kz{o k:Nat}{x:D}{g:Nat}:∀{ob ob':Laa} {e:Lac},uG o x g k ob=ς (ob',e)->go ob' o=ξ
 |[],ob',e,h=>by simp[uG] at h;obtain⟨rfl,rfl⟩:=h;rfl
 |(i,.var t cs)::r,ob',e,h=>by
  simp only[uG] at h
  split at h
  .cases h
  rename_i hb
  split at h
  .rename_i a1 a2
   simp at h;obtain⟨rfl,rfl⟩:=h
   rw[a9 _ _ (eR hb)];exact kz a2
  cases h
 |(i,.row t sz els gg m)::r,ob',e,h=>by
  simp only[uG] at h
  split at h
  .rename_i a2
   split at h
   .simp at h;obtain⟨rfl,rfl⟩:=h;exact kz a2
   rename_i hb
   simp at h;obtain⟨rfl,rfl⟩:=h
   rw[a9 _ _ (eR hb)];exact kz a2
  cases h
 |(i,.rown t sz els gg)::r,ob',e,h=>by
  simp only[uG] at h
  split at h
  .rename_i a2
   split at h
   .simp at h;obtain⟨rfl,rfl⟩:=h;exact kz a2
   rename_i hb
   simp at h;obtain⟨rfl,rfl⟩:=h
   rw[a9 _ _ (eR hb)];exact kz a2
  cases h
 |(i,.abs _ _)::r,ob',e,h=>by
  simp only[uG] at h
  split at h
  .rename_i a2
   split at h
   .simp at h;obtain⟨rfl,rfl⟩:=h;exact kz a2
   rename_i hb
   simp at h;obtain⟨rfl,rfl⟩:=h
   rw[a9 _ _ (eR hb)];exact kz a2
  cases h
def scB:List D->Bool
 |[]=>ζ
 | .i _ _::xs| .b _::xs| .str _::xs| .l []::xs=>scB xs
 |_=>η
theorem W4{w:World}{F:Nat->Prop}{T:Nat->Prop}:∀{es:List D} {d:D} {u:Value},scB es=ζ->d∈es->rdD w F d u->eT w T d u
 |e::es,d,u,h,hm,hu=>by
  rcases Zp.1 hm with rfl|hm
  .cases d with
   |i k n=>rw[rdD] at hu;rw[eT];exact hu
   |b n=>rw[rdD] at hu;rw[eT];exact hu
   |str n=>rw[rdD] at hu;rw[eT];exact hu
   |l xs=>
    cases xs with
    |nil=>rw[rdD] at hu;rw[eT];obtain⟨A,c,h1,h2,_⟩:=hu;exact⟨A,c,h1,h2,.inl rfl⟩
    |cons _ _=>simp[scB] at h
   |k A n c=>simp[scB] at h
  refine W4 (es:=es) ?_ hm hu
  cases e with
  |l xs=>
   cases xs with
   |nil=>exact h
   |cons _ _=>simp[scB] at h
  |_=>simp_all [scB]
theorem Ix{w:World}{F:Nat->Prop}:∀{xs:Lad} {b k:Nat},rdLL w F xs b k->rdL w F xs.flatten b k
 |[],b,k,_=>by simp[rdL]
 |e::es,b,k,h=>by
  rw[rdLL] at h
  refine lA λj d hj=>?_
  rw[List.flatten_cons] at hj
  by_cases hl:j<e.length
  .rw[Zt hl] at hj;exact iA h.1 hj
  rw[Zr oaa] at hj
  have:=iA (Ix h.2) hj
  rwa [show k+e.length+(j-e.length)=k+j by omega] at this
theorem db.flat{F T:Nat->Prop}(hs:∀e∈els,scB e=ζ)(h:rdLL w F els b 0):db w T els b:=by
 refine db.iff.2 ⟨λ_ _=>False,⟨λ_ _ h=>h.elim,λ_ _ _ h=>h.elim⟩,λj d hj=>?_⟩
 obtain⟨u,hc,hu⟩:=iA (Ix h) hj
 rw[Zs] at hc
 obtain⟨e,he,hd⟩:=List.mem_flatten.1 (Zk hj)
 exact⟨u,hc,W4 (hs e he) hd hu⟩
theorem eT.nil{T:Nat->Prop}:eT w T (.l []) (.slice ξ 0 0):=by rw[eT];exact⟨ξ,0,rfl,Zu _,.inl rfl⟩
def Tx(l:Nat):Gr->Lad->Prop
 | .s n,els| .t n,els=>n=l\/∀e∈els,scB e=ζ
 | .b _,els=>∀e∈els,scB e=ζ
theorem Li{ty:Nat}{ob:Laa}{g:Gr}{e1 e2:Lac}(o l:Nat)(hrv:rsv o=false:=by exact rfl)(hl:nlt l nx=true:=by exact rfl)(ho:go ob o=ς (.rown ty sz els g):=by exact rfl)(hs:Pf o (.l els) l els.length sl=ς (sl',e1):=by exact rfl)(hb:uG o (.l els) l els.length ob=ς (ob',e2):=by exact rfl)(h1:Eqs e1:=by repeat (first|exact θ|refine⟨by first|rfl|simp,?_⟩))(h2:Eqs e2:=by repeat (first|exact θ|refine⟨by first|rfl|simp,?_⟩))(hg:Tx l g els):
 cB N ⟨sl,ob,nx⟩ ⟨sl',ob',nx⟩:=by
 intro cx E a w hR
 rcases hR.obs o _ ho with⟨hE,hels⟩|⟨hE,b,c,arr,hr,hh,ha,hlc,hmx,hes,hrd,hF,hG⟩
 .have hk:eg o E w E w:=⟨λ_ _ _ h=>h,λ_ _ h=>h,λ_ _ _=>rfl,λ_ _ h=>⟨h,rfl⟩,λ_ h=>⟨h,.refl _ _⟩,λ_ _=>Iff.rfl⟩
  have hd:∀u,cvC E w (.wn o els.length) u->cvC E w (.d (.t l) (.l els)) u:=by
   intro u hu
   rcases hu with⟨_,_,rfl⟩|⟨hu,_⟩
   .subst hels;exact eT.nil
   exact(hu hE).elim
  refine⟨E,hR.ok,hR.dom,λj y hj=>?_,λj=>Gz hd hk hs h1 (hR.sl j),hR.dfr,hR.size,hR.td⟩
  by_cases e:j=o
  .subst e;rw[kz hb] at hj;cases hj
  exact pC hd hk e (λ_ _ _ h=>h) hb h2 hj (λy hy=>hR.obs j y hy)
 obtain⟨hb1,hb2⟩:=hR.ok.rb o b c hr
 have hb3:cx.In b:=hb2.resolve_right (λh=>by simp_all)
 let E':Env:=⟨λk=>if k=o then ξ else E.r k,E.F,E.G,λj k=>E.T j k\/(j=l/\k=b),E.Z,E.n⟩
 have hr':∀k x,E'.r k=ς x->k≠o/\E.r k=ς x:=λk x h=>by
  by_cases e:k=o
  .simp[E',e] at h
  simp[E',e] at h;exact⟨e,h⟩
 have hk:eg o E w E' w:=⟨λk x h1 h=>by show(if k=o then ξ else E.r k)=ς x;rw[if_neg h1];exact h,λg b h=>by cases g<;>exact h,λ_ _ _=>rfl,λ_ _ h=>⟨.inl h,rfl⟩,λ_ h=>⟨h,.refl _ _⟩,λ_ _=>Iff.rfl⟩
 have hT:db w (E.T l) els b:=by
  cases g with
  |b g=>exact db.flat hg hrd
  |s n=>
   rcases hg with rfl|hg
   .exact hG
   exact db.flat hg hrd
  |t n=>
   rcases hg with rfl|hg
   .exact hG
   exact db.flat hg hrd
 have hd:∀u,cvC E w (.wn o els.length) u->cvC E' w (.d (.t l) (.l els)) u:=by
  intro u hu
  rcases hu with⟨hu,_⟩|⟨_,b',c',hr',rfl⟩
  .exact(hE hu).elim
  rw[hr] at hr';cases hr'
  exact(hT.tree hlc ⟨arr,ty,sz,hh,ha,hmx,hes⟩).keep (λ_ _=>rfl) (λk hk=>hk.imp id λe=>⟨rfl,e⟩)
 have hT':∀j k,E'.T j k->E.T j k\/(j=l/\k=b):=λ_ _ h=>h
 have hnT:∀j,¬E.T j b:=λj h=>(hR.ok.sf.tb j b h).2.2.1 o c hr
 have ok:=hR.ok
 refine⟨E',⟨ok.fb,ok.gf,ok.gn,λk b c h=>ok.rb k b c (hr' k _ h).2,λk k' b c c' h h'=>ok.inj k k' b c c' (hr' k _ h).2 (hr' k' _ h').2,ok.os,ok.tape,ok.output,ok.size,ok.block,λk x h h'=>ok.pin k x h (hr' k _ h').2,ok.ff,ok.gc,
  ⟨λj k h=>?_,λj j' k h h'=>?_,λk h=>?_,ok.sf.zs,ok.sf.ze⟩⟩,λk x h=>hR.dom k x (hr' k x h).2,λj y hj=>?_,λj=>Gz hd hk hs h1 (hR.sl j),hR.dfr,hR.size,λj k h=>?_⟩
 .rcases h with h|⟨rfl,rfl⟩
  .obtain⟨q1,q2,q3,q4⟩:=ok.sf.tb j k h
   exact⟨q1,q2,λi c h=>q3 i c (hr' i _ h).2,q4⟩
  exact⟨⟨hb1,hb3⟩,hF,λi c' h=>(hr' i _ h).1 (ok.inj _ _ _ _ _ (hr' i _ h).2 hr),.mk hh⟩
 .rcases h with h|⟨rfl,rfl⟩
  .rcases h' with h'|⟨rfl,rfl⟩
   .exact ok.sf.tt _ _ _ h h'
   exact(hnT _ h).elim
  rcases h' with h'|⟨rfl,_⟩
  .exact(hnT _ h').elim
  rfl
 .obtain⟨q1,q2,q3,q4⟩:=ok.sf.zc k h
  exact⟨q1,q2,λi c h=>q3 i c (hr' i _ h).2,q4⟩
 .by_cases e:j=o
  .subst e;rw[kz hb] at hj;cases hj
  exact pC hd hk e (λ_ _ _ h=>h) hb h2 hj (λy hy=>hR.obs j y hy)
 rcases h with h|⟨rfl,_⟩
 .exact hR.td j k h
 exact bO hl
def tcD:C->Option (D×Option Nat)
 | .d (.t l) (.l xs)=>ς (.l xs,ς l)
 | .d _ (.i k n)=>ς (.i k n,ξ)
 | .d _ (.b b)=>ς (.b b,ξ)
 | .d _ (.str s)=>ς (.str s,ξ)
 | .d _ (.l [])=>ς (.l [],ξ)
 | .nil=>ς (.l [],ξ)
 |_=>ξ
def Gx:List C->Option (List D×List (Option Nat))
 |[]=>ς ([],[])
 |c::cs=>match tcD c,Gx cs with
  |some (x,g),ς (xs,gs)=>ς (x::xs,g::gs)
  |_,_=>ξ
def tvD:V->Option (List D×List (Option Nat))
 | .c c=>match tcD c with
  |some (x,g)=>ς ([x],[g])
  |none=>ξ
 | .agg cs=>Gx cs
def TL(E:Env):Option Nat->Nat->Prop
 |none,_=>False
 |some l,b=>E.T l b
theorem K6{c:C}{x:D}{g:Option Nat}(h:tcD c=ς (x,g))(hc:cvC E w c u):eT w (TL E g) x u/\u.oneCell'=ζ/\u.cells= #[u]:=by
 cases c with
 |d g' x'=>
  refine⟨?_,iS (jQ hc),nk (jQ hc)⟩
  have hr:=jQ hc
  cases x' with
  |i k n=>cases g'<;>(simp[tcD] at h;obtain⟨rfl,rfl⟩:=h;rw[rdD] at hr;rw[eT];exact hr)
  |b n=>cases g'<;>(simp[tcD] at h;obtain⟨rfl,rfl⟩:=h;rw[rdD] at hr;rw[eT];exact hr)
  |str n=>cases g'<;>(simp[tcD] at h;obtain⟨rfl,rfl⟩:=h;rw[rdD] at hr;rw[eT];exact hr)
  |k A n c=>cases g'<;>simp[tcD] at h
  |l xs=>
   cases g' with
   |t l=>simp[tcD] at h;obtain⟨rfl,rfl⟩:=h;exact hc
   |_=>
    cases xs with
    |nil=>simp[tcD] at h;obtain⟨rfl,rfl⟩:=h;rw[rdD] at hr;rw[eT];obtain⟨A,c,h1,h2,_⟩:=hr;exact⟨A,c,h1,h2,.inl rfl⟩
    |cons _ _=>simp[tcD] at h
 |nil=>
  simp[tcD] at h
  obtain⟨rfl,rfl⟩:=h
  have hu:u= .slice ξ 0 0:=hc
  subst hu
  exact⟨eT.nil,rfl,rfl⟩
 |_=>simp[tcD] at h
theorem Gy{E:Env}{w:World}:∀{cs:List C} {xs:List D} {gs:List (Option Nat)} {us:Lae},Gx cs=ς (xs,gs)->CV E w cs us->
 xs.length=us.length/\(∀u∈us,u.oneCell'=ζ)/\∀(j:Nat) (xd:D),xs[j]?=ς xd->∃u g,us[j]?=ς u/\gs[j]?=ς g/\eT w (TL E g) xd u
 |[],xs,g,us,h,hc=>by
  simp[Gx] at h;obtain⟨rfl,rfl⟩:=h
  cases us with
  |nil=>simp_all
  |cons _ _=>exact hc.elim
 |c::cs,xs,g,us,h,hc=>by
  cases us with
  |nil=>exact hc.elim
  |cons u us=>
   cases h1:tcD c with
   |none=>simp[Gx,h1] at h
   |some p=>
    obtain⟨x,g1⟩:=p
    cases h2:Gx cs with
    |none=>simp[Gx,h1,h2] at h
    |some p=>
     obtain⟨xs',g2⟩:=p
     simp[Gx,h1,h2] at h
     obtain⟨rfl,rfl⟩:=h
     obtain⟨k1,k2,k3⟩:=K6 h1 hc.1
     obtain⟨m1,m2,m3⟩:=Gy h2 hc.2
     refine⟨by simp[m1],by simp_all,λj xd hj=>?_⟩
     cases j with
     |zero=>simp at hj;subst hj;exact⟨u,g1,rfl,rfl,k1⟩
     |succ j=>
      obtain⟨v,g,n1,n2,n3⟩:=m3 j xd (by simpa using hj)
      exact⟨v,g,by simpa using n1,by simpa using n2,n3⟩
theorem Ty{v:V}{xs:List D}{gs:List (Option Nat)}(h:tvD v=ς (xs,gs))(hv:cvV E w v u):
 u.cells.size=xs.length/\(∀c∈u.cells.toList,c.oneCell'=ζ)/\∀(j:Nat) (xd:D),xs[j]?=ς xd->∃c g,u.cells[j]?=ς c/\gs[j]?=ς g/\eT w (TL E g) xd c:=by
 cases v with
 |c c=>
  cases h1:tcD c with
  |none=>simp[tvD,h1] at h
  |some p=>
   obtain⟨x,g1⟩:=p
   simp[tvD,h1] at h
   obtain⟨rfl,rfl⟩:=h
   obtain⟨k1,k2,k3⟩:=K6 h1 hv
   refine⟨by simp[k3],by simp[k3,k2],λj xd hj=>?_⟩
   cases j with
   |zero=>simp at hj;subst hj;exact⟨u,g1,by simp[k3],rfl,k1⟩
   |succ j=>simp at hj
 |agg cs=>
  obtain⟨arr,rfl,hc⟩:=hv
  obtain⟨m1,m2,m3⟩:=Gy h hc
  refine⟨by simpa [Value.cells] using m1.symm,by simpa [Value.cells] using m2,λj xd hj=>?_⟩
  obtain⟨c,g,n1,n2,n3⟩:=m3 j xd hj
  exact⟨c,g,by simpa [Value.cells] using n1,n2,n3⟩
def xg(k:Nat):List (Option Nat)->Bool
 |[]=>η
 |none::r=>xg k r
 |some j::r=>d0 k j||xg k r
def yu(l:Nat):List (Option Nat)->Bool
 |[]=>ζ
 |none::r=>yu l r
 |some k::r=>!(d0 k l)&&!(xg k r)&&yu l r
theorem vO{k:Nat}:∀{gs:List (Option Nat)} {j:Nat},gs[j]?=ς (ς k)->xg k gs=ζ
 |[],_,h=>by simp at h
 |none::r,0,h=>by simp at h
 |none::r,j+1,h=>vO (gs:=r) (j:=j) (by simpa using h)
 |some i::r,0,h=>by simp at h;subst h;simp[xg]
 |some i::r,j+1,h=>by simp[xg,vO (gs:=r) (j:=j) (by simpa using h)]
theorem FZ{l k:Nat}:∀{gs:List (Option Nat)} {j:Nat},yu l gs=ζ->gs[j]?=ς (ς k)->k≠l
 |[],_,_,h=>by simp at h
 |none::r,0,_,h=>by simp at h
 |none::r,j+1,h0,h=>FZ (gs:=r) (j:=j) h0 (by simpa using h)
 |some i::r,0,h0,h=>by simp at h;subst h;simp only[yu,hV,ZD] at h0;exact eR h0.1.1
 |some i::r,j+1,h0,h=>by simp only[yu,hV] at h0;exact FZ (gs:=r) (j:=j) h0.2 (by simpa using h)
theorem AS{l k:Nat}:∀{gs:List (Option Nat)} {j j':Nat},yu l gs=ζ->gs[j]?=ς (ς k)->gs[j']?=ς (ς k)->j=j'
 |[],_,_,_,h,_=>by simp at h
 |none::r,0,_,_,h,_=>by simp at h
 |none::r,_+1,0,_,_,h=>by simp at h
 |none::r,j+1,j'+1,h0,h,h'=>by rw[AS (gs:=r) (j:=j) (j':=j') h0 (by simpa using h) (by simpa using h')]
 |some i::r,0,0,_,_,_=>rfl
 |some i::r,0,j'+1,h0,h,h'=>by
  simp at h;subst h
  simp only[yu,hV,ZD] at h0
  rw[vO (gs:=r) (j:=j') (by simpa using h')] at h0
  simp at h0
 |some i::r,j+1,0,h0,h,h'=>by
  simp at h';subst h'
  simp only[yu,hV,ZD] at h0
  rw[vO (gs:=r) (j:=j) (by simpa using h)] at h0
  simp at h0
 |some i::r,j+1,j'+1,h0,h,h'=>by
  simp only[yu,hV] at h0
  rw[AS (gs:=r) (j:=j) (j':=j') h0.2 (by simpa using h) (by simpa using h')]
def mgs(gs:List (Option Nat))(l k:Nat):Nat:=bif xg k gs then l else k
theorem Ky{ob:Laa}{cx:Cx}(f:Nat->Nat)(hf:∀k,k<nx->f k<nx)(hR:Rel N cx E ⟨sl,ob,nx⟩ a w):Rel N cx (E.rg f) ⟨xn f sl,uE f ob,nx⟩ a w:=by
 have ok:=hR.ok
 refine⟨⟨ok.fb,ok.gf,ok.gn,ok.rb,ok.inj,ok.os,ok.tape,ok.output,ok.size,ok.block,ok.pin,ok.ff,ok.gc,M8 ok.sf⟩,hR.dom,λo x h=>?_,λk=>?_,hR.dfr,hR.size,λl b ⟨k,h1,h2⟩=>by subst h1;exact hf k (hR.td k b h2)⟩
 .rw[Fp] at h
  cases hg:go ob o with
  |none=>rw[hg] at h;cases h
  |some y=>rw[hg] at h;cases h;exact rg_O (hR.obs o y hg)
 rw[Fq];exact WM (hR.sl k)
theorem QM{el' ns:List D}(hes:∀e∈els,e.length=sz)(he:els[i]?=ς el)(hs:oA j ns el=ς el')(hel':el'.length=sz)(jj:Nat):
 (els.set i el').flatten[jj]?=if i*sz+j<=jj/\jj<i*sz+j+ns.length then ns[jj-(i*sz+j)]? else els.flatten[jj]?:=by
 have hil:i<els.length:=(v0.1 he).1
 have hel:el.length=sz:=hes el (Zk he)
 obtain⟨hsp,hle⟩:=nY hs
 have hes':∀e∈els.set i el',e.length=sz:=λe hm=>by
  rcases List.mem_or_eq_of_mem_set hm with h|h
  .exact hes e h
  subst h;exact hel'
 by_cases hz:sz=0
 .have h1:(els.set i el').flatten=[]:=aap.1 (by rw[eh hes',hz,aaV])
  have h2:els.flatten=[]:=aap.1 (by rw[eh hes,hz,aaV])
  have h3:ns=[]:=aap.1 oaa
  rw[h1,h2,h3];simp
 have hp:0<sz:=Nat.pos_of_ne_zero hz
 obtain⟨q,r,hr,rfl⟩:∃q r,r<sz/\jj=q*sz+r:=⟨jj/sz,jj%sz,aaS _ hp,by rw[Nat.mul_comm];exact(Nat.div_add_mod jj sz).symm⟩
 rw[uQ hp hes' q r hr,uQ hp hes q r hr,aaG]
 by_cases hq:i=q
 .subst hq
  rw[if_pos rfl,if_pos hil,he]
  simp only[Option.bind_some]
  rw[CW hs]
  by_cases hin:j<=r/\r<j+ns.length
  .rw[if_pos hin,if_pos oaa]
   congr 1;omega
  rw[if_neg hin,if_neg oaa]
 rw[if_neg hq,if_neg]
 rintro⟨k1,k2⟩
 rcases Nat.lt_or_gt_of_ne hq with h|h
 .have:(i+1)*sz<=q*sz:=ZI _ h
  rw[aaM] at this
  omega
 have:(q+1)*sz<=i*sz:=ZI _ h
 rw[aaM] at this
 omega
section
variable{P:Program}{N:Nat}{ty:TypeId}{ps:String}{af:Array Edge}{gd:Option (Nat×Bool)}{x y:Operand}{sl:Lab}{ob:Laa}{nx:Nat}
end
section
variable{P:Program}{N:Nat}{d:Tmp}{ty:TypeId}{ps:String}{af:Array Edge}{gd:Option (Nat×Bool)}{x y z:Operand}{st:St}
theorem JD{cx:Cx}(hR:Rel N cx E st a w){by_ o m:Nat}[ht:da P t e sz by_](hrv:rsp o=η)(hd:d<N){cc:Nat}{arr:Array Value}(hr:E.r o=ς (b,cc))(hu:a.eval x= .slice (ς ⟨b,0,ξ⟩) n cc)(hh:w.heap[b]?=ς (.cells arr e (0,0)))(ha:arr.size=cc*sz)(hlc:n<=cc)(hmx:cc<=maxLen)(hF:¬E.F b){ad:Addr}(hv:a.eval y= .slice (ς ad) m k){news:Lae}(n1:news.length=m*sz)(q2:∀(j:Nat) (u:Value),news[j]?=ς u->w.cell? (ad.add j)=ς u)(n2:∀u∈news,u.oneCell'=ζ)(hk:gI o st.sl=ς sl')(hkb:gP o st.ob=ς ob')(hb:(n+m)*by_<=140737488355328)(h63:n+m<=9223372036854775807){NEW:Ob}(hNEW:∀(bn cap:Nat) (cur:Array Value) (w':World),w'.heap[bn]?=ς (.cells cur e (0,0))->cur.size=cap*sz->n+m<=cap->cap<=maxLen->cur.toList.take ((n+m)*sz)=arr.toList.take (n*sz)++news->¬E.F bn->(∀k,k<w.heap.size->k≠b->w'.heap[k]?=w.heap[k]?)->(bn=b\/bn=w.heap.size)->cg (E.upd o bn cap) w' o NEW):
 Oper.wp P ⟨ς d,.call ⟨.builtin .append,#[x,y],#[t,t]⟩,ty,ps,af,gd⟩ a w (λa' w'=>∃E',Rel N cx E' ⟨(d,.v (.c (.w o (n+m))))::sl',(o,NEW)::ob',st.nx⟩ a' w') (λ_ _ _=>False):=by
 obtain⟨ii,zz,i1,i2,i3,i4,i5⟩:=ht.i
 have hbl:=(hR.ok.rb o b cc hr)
 have hown:w.ownsRow 0 e sz (.slice (ς ⟨b,0,ξ⟩) n cc) n (arr.toList.take (n*sz)):=
  ⟨by simp_all,.inr ⟨b,cc,arr,rfl,ZA _,hh,by omega,hmx,ha,rfl⟩⟩
 obtain⟨v',w',r1,r2,r3,r4',r5⟩:=run_append_own_at (P:=P) w 0 t ty e ii zz sz by_ ht.u i1 i4 i2 i3 i5 ht.p _ n _ hown ad m k news n1 q2 n2 (by unfold maxLen;omega) hb (ZA _)
 have r4:v'≠.slice ξ 0 0:=λh=>by simp_all
 obtain⟨_,r2⟩:=r2
 rcases r2 with⟨rfl,_⟩|⟨bn,cap,cur,rfl,_,hhn,hcap,hcapm,hcur,htk⟩
 .simp_all
 unfold Oper.wp
 simp only[execOp,resolve,invoke,builtin,Sem.run_bind,Sem.run_pure,Result.andThen_ok,aal,aac,aae,hu,hv,r1,Oper.upon_value]
 have hbn:bn=b\/bn=w.heap.size:=by simpa [Value.ownBlock] using r5
 have hsame:∀k,k<w.heap.size->k≠b->w'.heap[k]?=w.heap[k]?:=λk hk hne=>r3.block k hk (λe=>hne (by injection e))
 have hnF:¬E.F bn:=by
  rcases hbn with rfl|rfl
  .exact hF
  exact λh=>by have:=hR.ok.fb _ h;omega
 have hbig:bn<w'.heap.size:=by
  rcases ZF bn w'.heap.size with h|h
  .exact h
  simp_all
 have hnew:∀l bl cl,l≠o->E.r l=ς (bl,cl)->bl≠bn:=by
  intro l bl cl hne hl e
  subst e
  rcases hbn with h|h
  .subst h;exact hne (hR.ok.inj l o _ _ _ hl hr)
  have:=(hR.ok.rb l bl cl hl).1;omega
 have hHb:∀(g:Bool) k,E.H g k->k≠b/\k<w.heap.size:=λg k hk=>⟨λe=>by subst e;cases g;exact hF hk;exact hF (hR.ok.gf _ hk),hR.ok.hb hk⟩
 have kb:eg o E w (E.upd o bn cap) w':=⟨λl x hne hl=>by simp only[Env.upd];simp_all,λ_ _ h=>h,λg k hk=>hsame k (hHb g k hk).2 (hHb g k hk).1,λl k hk=>⟨hk,hsame k (hR.ok.sf.tb l k hk).1.1 (λe=>by subst e;exact(hR.ok.sf.tb l k hk).2.2.1 o _ hr)⟩,λk hk=>⟨hk,.of_eq (hsame k (hR.ok.sf.zb k hk).1.2.1 (λe=>by subst e;exact(hR.ok.sf.zb k hk).2.2.1 o _ hr))⟩,λ_ _=>Iff.rfl⟩
 refine⟨E.upd o bn cap,⟨λk hk=>Zy (hR.ok.fb k hk) r3.size,hR.ok.gf,hR.ok.gn,λl bl cl hl=>?_,λl l' bl cl cl' hl hl'=>?_,by rw[r3.os];exact hR.ok.os,by rw[r3.tape];exact hR.ok.tape,by rw[r3.output];exact hR.ok.output,Zz hR.ok.size r3.size,λk hk hW=>?_,λl xx hv hl=>by
  simp only[Env.upd] at hl
  split at hl
  .simp_all
  exact hR.ok.pin l xx hv hl,hR.ok.ff,λk hk hk'=>(hR.ok.gc k hk hk').of_eq (hsame k (hHb η k hk).2 (hHb η k hk).1),hR.ok.sf.turn hr rfl rfl (λ_ h=>.inl h) (λl bl cl hl=>by
  simp only[Env.upd] at hl
  grind) r3.size hsame⟩,λl xx hl=>?_,λl ob hl=>?_,λk=>?_,hR.dfr,by simpa [Act.put] using hR.size,hR.td⟩
 .simp only[Env.upd] at hl
  split at hl
  .rename_i elo
   cases hl
   refine⟨hbig,?_⟩
   rcases hbn with h|h
   .simp_all
   left;rw[h];exact .inl hR.ok.size
  have:=hR.ok.rb l bl cl hl;grind
 .simp only[Env.upd] at hl hl'
  split at hl<;>split at hl'
  .omega
  .grind
  .grind
  exact hR.ok.inj l l' bl cl cl' hl hl'
 .have hkb':k≠b:=λe=>by
   subst e;exact(hR.ok.rw hr).elim (λh=>by omega) hW
  rw[hsame k (by have:=hR.ok.size;omega) hkb'];exact hR.ok.block k hk hW
 .simp only[Env.upd] at hl
  split at hl
  .rename_i e;subst e;exact hR.dom _ _ hr
  exact hR.dom l _ hl
 .by_cases hlo:o=l
  .subst hlo
   rw[bM] at hl;cases hl
   exact hNEW bn cap cur _ hhn hcur oaa hcapm htk hnF hsame hbn
  rw[a9 _ _ hlo] at hl
  rcases n9 hkb hl with⟨t',cs,cs',k1,k2,rfl⟩|⟨t',sz',els',g',m',k1,rfl⟩|⟨t',sz',els',g',k1,rfl⟩|⟨j',y',k1,rfl⟩
  .obtain⟨bl,cl,arrl,l1,l2,l3,l4⟩:=hR.obs l _ k1
   have hne:bl≠b:=λe=>hlo (by subst e;exact hR.ok.inj _ _ _ _ _ hr l1)
   exact⟨bl,cl,arrl,kb.r _ _ (Ne.symm hlo) l1,(hsame bl (hR.ok.rb _ _ _ l1).1 hne).trans l2,pG kb k2 l3,l4⟩
  .obtain⟨bl,cl,arrl,l1,l2,l3,l4,l5,l6,l7,l8,l9⟩:=hR.obs l _ k1
   have hne:bl≠b:=λe=>hlo (by subst e;exact hR.ok.inj _ _ _ _ _ hr l1)
   have hb2:=hsame bl (hR.ok.rb _ _ _ l1).1 hne
   exact⟨bl,cl,arrl,kb.r _ _ (Ne.symm hlo) l1,hb2.trans l2,l3,l4,l5,l6,bS (kb.hp _) (kb.HH _) hb2 _ _ l7,l8,l9.1,kU kb hb2 l9.2⟩
  .rcases hR.obs l _ k1 with h|⟨l0,bl,cl,arrl,l1,l2,l3,l4,l5,l6,l7,l8⟩
   .exact .inl h
   have hne:bl≠b:=λe=>hlo (by subst e;exact hR.ok.inj _ _ _ _ _ hr l1)
   have hb2:=hsame bl (hR.ok.rb _ _ _ l1).1 hne
   exact .inr ⟨l0,bl,cl,arrl,kb.r _ _ (Ne.symm hlo) l1,hb2.trans l2,l3,l4,l5,l6,bS (kb.hp _) (kb.HH _) hb2 _ _ l7,l8.1,kU kb hb2 l8.2⟩
  rcases hR.obs l _ k1 with h|⟨l0,bl,cl,l1,l2,l3⟩
  .exact .inl h
  have hne:bl≠b:=λe=>hlo (by subst e;exact hR.ok.inj _ _ _ _ _ hr l1)
  have hb2:=hsame bl (hR.ok.rb _ _ _ l1).1 hne
  exact .inr ⟨l0,bl,cl,kb.r _ _ (Ne.symm hlo) l1,y'.st _ _ _ _ _ _ l2 (λk hk=>(kb.T _ k hk).1) hb2 (λk hk=>(kb.T _ k hk).2),l3⟩
 rw[eK (by rw[hR.size];exact hd)]
 by_cases hdk:d=k
 .subst hdk;rw[cG,if_pos rfl];exact⟨bn,cap,by simp[Env.upd],rfl⟩
 rw[b7 _ _ hdk,if_neg hdk]
 rcases qj hk k with h|⟨h,h'⟩
 .rw[h];trivial
 rw[h];exact xV kb h' (hR.sl k)
theorem Bf{by_ m:Nat}[ht:da P t e sz by_](hm0:0<m)(hb:m*by_<=140737488355328)(h63:m<=9223372036854775807){cx:Cx}(ok:cF cx E w)(hq1:E.r q=ξ)(hq2:rsv q=η)(hu:a.eval x= .slice ξ 0 0){ad:Addr}(hv:a.eval y= .slice (ς ad) m k){news:Lae}(n1:news.length=m*sz)(q2:∀(j:Nat) (u:Value),news[j]?=ς u->w.cell? (ad.add j)=ς u)(q3:∀u∈news,u.oneCell'=ζ){NEW:Ob}(hNEW:∀(bn cap:Nat) (cur:Array Value) (w':World),w'.heap[bn]?=ς (.cells cur e (0,0))->cur.size=cap*sz->m<=cap->cap<=maxLen->cur.toList.take (m*sz)=news->¬E.F bn->(∀k,k<w.heap.size->w'.heap[k]?=w.heap[k]?)->bn=w.heap.size->cg (E.new q bn cap) w' q NEW):
 Oper.wp P ⟨ς d,.call ⟨.builtin .append,#[x,y],#[t,t]⟩,ty,ps,af,gd⟩ a w (λa' w'=>∃v E',a'=a.put (ς d) v/\cF cx E' w'/\Ext E w E' w'/\cvT E' w' (.v (.c (.w q m))) v/\cg E' w' q NEW/\
  (∀l x,E'.r l=ς x->E.r l=ς x\/l=q)) (λ_ _ _=>False):=by
 obtain⟨ii,zz,i1,i2,i3,i4,i5⟩:=ht.i
 have hown:=World.ownsRow_nil w 0 e sz
 obtain⟨v',w',r1,r2,r3,r4,r5⟩:=run_append_own_at (P:=P) w 0 t ty e ii zz sz by_ ht.u i1 i4 i2 i3 i5 ht.p _ 0 _ hown ad m k news n1 q2 q3 (by unfold maxLen;omega) (by simp_all) (ZA _)
 have hnn:v'≠.slice ξ 0 0:=λh=>by have:=(r4.1 h).2;omega
 obtain⟨_,r2⟩:=r2
 rcases r2 with⟨rfl,_⟩|⟨bn,cap,cur,rfl,_,hhn,hcap,hcapm,hcur,htk⟩
 .simp_all
 simp only[Zs,aab] at r1 hcap htk hnn r4 r5
 unfold Oper.wp
 simp only[execOp,resolve,invoke,builtin,Sem.run_bind,Sem.run_pure,Result.andThen_ok,aal,aac,aae,hu,hv,r1,Oper.upon_value]
 have hbn:bn=w.heap.size:=by simpa [Value.ownBlock] using r5
 have hsame:∀k,k<w.heap.size->w'.heap[k]?=w.heap[k]?:=λk hk=>r3.block k hk (λe=>by simp[Value.ownBlock] at e)
 have hnF:¬E.F bn:=λh=>by have:=ok.fb _ h;omega
 have hbig:bn<w'.heap.size:=by
  rcases ZF bn w'.heap.size with h|h
  .exact h
  simp_all
 have kH:∀(g:Bool) (k:Nat),E.H g k->w'.heap[k]?=w.heap[k]?:=λg k hk=>hsame k (ok.hb hk)
 have kI:∀(g:Bool) (k:Nat),E.H g k->(E.new q bn cap).H g k:=λ_ _ h=>h
 have hmv:∀l bl cl,(E.new q bn cap).r l=ς (bl,cl)->(l=q/\bl=bn/\cl=cap)\/(l≠q/\E.r l=ς (bl,cl)):=by
  intro l bl cl hl
  simp only[Env.new] at hl
  split at hl
  .simp_all
  simp_all
 refine⟨_,E.new q bn cap,rfl,⟨λk hk=>Zy (ok.fb k hk) r3.size,ok.gf,ok.gn,λl bl cl hl=>?_,λl l' bl cl cl' hl hl'=>?_,by rw[r3.os];exact ok.os,by rw[r3.tape];exact ok.tape,by rw[r3.output];exact ok.output,Zz ok.size r3.size,λk hk hW=>?_,λl xx hv hl=>?_,ok.ff,λk hk hk'=>(ok.gc k hk hk').of_eq (hsame k (ok.fb k hk)),ok.sf.grow rfl rfl (λ_ h=>.inl h) (λl bl cl hl=>?_) r3.size hsame⟩,
  ⟨λl xx hlr=>?_,λ_ h=>h,λ_ h=>h,λ_ h=>.inl h,hsame,λ_ _ h=>h,λ_ _ h=>.inl h,rfl,rfl⟩,⟨bn,cap,by simp[Env.new],rfl⟩,hNEW bn cap cur _ hhn hcur oaa hcapm htk hnF hsame hbn,λl xx hl=>?_⟩
 .rcases hmv l bl cl hl with⟨_,rfl,rfl⟩|⟨_,hl⟩
  .exact⟨hbig,.inl (.inl (by rw[hbn];exact ok.size))⟩
  have:=ok.rb l bl cl hl;exact⟨Zy this.1 r3.size,this.2⟩
 .rcases hmv l bl cl hl with⟨h1,h2,h3⟩|⟨h1,h3⟩<;>rcases hmv l' bl cl' hl' with⟨k1,k2,k3⟩|⟨k1,k3⟩
  .omega
  .have:=(ok.rb l' bl cl' k3).1;omega
  .have:=(ok.rb l bl cl h3).1;omega
  exact ok.inj l l' bl cl cl' h3 k3
 .rw[hsame k (by have:=ok.size;omega)];exact ok.block k hk hW
 .obtain⟨bl,cl⟩:=xx
  rcases hmv l bl cl hl with⟨rfl,_⟩|⟨_,hl⟩
  .rw[mn hq2] at hv;cases hv
  exact ok.pin l _ hv hl
 .grind
 .simp only[Env.new]
  grind
 obtain⟨bl,cl⟩:=xx
 rcases hmv l bl cl hl with⟨rfl,_⟩|⟨_,hl⟩
 .exact .inr rfl
 exact .inl hl
end
section
variable{P:Program}{N:Nat}{d:Tmp}{ty:TypeId}{ps:String}{af:Array Edge}{gd:Option (Nat×Bool)}{x y z:Operand}{sl:Lab}{ob:Laa}{nx:Nat}
theorem db.raw{T:Nat->Prop}{c m:Nat}{e:TypeId}{arr:Array Value}(hT:db w T ys b)(hh:w.heap[b]?=ς (.cells arr e (0,0)))(ha:arr.size=c*sz)(hc:ys.length<=c)(hm:ys.length=m)(hsz:∀e∈ys,e.length=sz):
 (arr.toList.take (m*sz)).length=m*sz/\(∀(j:Nat) (u:Value),(arr.toList.take (m*sz))[j]?=ς u->w.cell? ((⟨b,0,ξ⟩:Addr).add j)=ς u)/\(∀u∈arr.toList.take (m*sz),u.oneCell'=ζ):=by
 have hle:m*sz<=arr.size:=by rw[ha,<-hm];exact ZI _ hc
 have hl:(arr.toList.take (m*sz)).length=m*sz:=by rw[aaf,aaR];omega
 have hg:∀(j:Nat) (u:Value),(arr.toList.take (m*sz))[j]?=ς u->arr[j]?=ς u/\j<m*sz:=λj u hj=>by
  have hjl:j<m*sz:=by have:=(v0.1 hj).1;omega
  rw[ZQ,if_pos hjl] at hj
  exact⟨by simpa using hj,hjl⟩
 refine⟨hl,λj u hj=>?_,λu hu=>?_⟩
 .rw[sm,Zs,dw hh];exact(hg j u hj).1
 obtain⟨j,hj⟩:=Zx hu
 obtain⟨h1,h2⟩:=hg j u hj
 obtain⟨Q,_,q2⟩:=db.iff.1 hT
 have hf:ys.flatten.length=m*sz:=by rw[eh hsz,hm]
 obtain⟨v,v1,v2⟩:=q2 j (ys.flatten[j]'(by omega)) (Zl _)
 rw[dw hh,h1] at v1
 cases v1
 exact iS v2.rd
theorem db.append{w':World}{T1 T2 T':Nat->Prop}{b2 bn m:Nat}{e:TypeId}{arr arr2 cur:Array Value}(h1:db w T1 els b)(h2:db w T2 ys b2)(hh:w.heap[b]?=ς (.cells arr e (0,0)))(hh2:w.heap[b2]?=ς (.cells arr2 e (0,0)))(hhn:w'.heap[bn]?=ς (.cells cur e (0,0)))(hn:els.length=n)(hm:ys.length=m)(hes:∀e∈els,e.length=sz)(hsz:∀e∈ys,e.length=sz)(hle:n*sz<=arr.size)(hle2:m*sz<=arr2.size)(htk:cur.toList.take ((n+m)*sz)=arr.toList.take (n*sz)++arr2.toList.take (m*sz))(hd:∀k,T1 k->T2 k->False)(hw1:∀k,T1 k->w'.heap[k]?=w.heap[k]?/\T' k/\k≠bn)(hw2:∀k,T2 k->w'.heap[k]?=w.heap[k]?/\T' k/\k≠bn):db w' T' (els++ys) bn:=by
 obtain⟨Q1,⟨q1,q2⟩,q3⟩:=db.iff.1 h1
 obtain⟨Q2,⟨p1,p2⟩,p3⟩:=db.iff.1 h2
 have hfl:els.flatten.length=n*sz:=by rw[eh hes,hn]
 have hfl2:ys.flatten.length=m*sz:=by rw[eh hsz,hm]
 have hxs:(arr.toList.take (n*sz)).length=n*sz:=by rw[aaf,aaR];omega
 have hcurj:∀(j:Nat) (u:Value),(arr.toList.take (n*sz)++arr2.toList.take (m*sz))[j]?=ς u->cur[j]?=ς u:=by
  intro j u hu
  rw[<-htk,ZQ] at hu
  split at hu
  .simpa using hu
  cases hu
 refine db.iff.2 ⟨λk=>if k<n*sz then Q1 k else Q2 (k-n*sz),⟨λk b' hk=>?_,λk k' b' hk hk'=>?_⟩,λj xd hj=>?_⟩
 .by_cases h:k<n*sz
  .simp only[if_pos h] at hk;have:=hw1 _ (q1 _ _ hk).1;exact this.2
  simp only[if_neg h] at hk;have:=hw2 _ (p1 _ _ hk).1;exact this.2
 .by_cases h:k<n*sz<;>by_cases h':k'<n*sz
  .simp only[if_pos h] at hk;simp only[if_pos h'] at hk';exact q2 _ _ _ hk hk'
  .simp only[if_pos h] at hk;simp only[if_neg h'] at hk';exact(hd _ (q1 _ _ hk).1 (p1 _ _ hk').1).elim
  .simp only[if_neg h] at hk;simp only[if_pos h'] at hk';exact(hd _ (q1 _ _ hk').1 (p1 _ _ hk).1).elim
  simp only[if_neg h] at hk;simp only[if_neg h'] at hk';have:=p2 _ _ _ hk hk';omega
 rw[dw hhn]
 rw[aah] at hj
 by_cases hjn:j<n*sz
 .rw[Zt oaa] at hj
  obtain⟨u,u1,u2⟩:=q3 _ _ hj
  rw[dw hh] at u1
  refine⟨u,hcurj j u ?_,?_⟩
  .rw[Zt oaa,ZQ,if_pos hjn];simpa using u1
  simp only[if_pos hjn];exact u2.keep (λk hk=>(hw1 k (q1 _ _ hk).1).1) λ_ h=>h
 rw[Zr oaa,hfl] at hj
 have hj2:j-n*sz<m*sz:=by have:=(v0.1 hj).1;omega
 obtain⟨u,u1,u2⟩:=p3 _ _ hj
 rw[dw hh2] at u1
 refine⟨u,hcurj j u ?_,?_⟩
 .rw[Zr oaa,hxs,ZQ,if_pos hj2];simpa using u1
 simp only[if_neg hjn];exact u2.keep (λk hk=>(hw2 k (p1 _ _ hk).1).1) λ_ h=>h
theorem wz{cx:Cx}(hR:Rel N cx E ⟨sl,ob,nx⟩ a w){by_ o o2 m:Nat}[ht:da P t e sz by_](hrv:rsp o=η)(hd:d<N){cc:Nat}{arr:Array Value}(hr:E.r o=ς (b,cc))(hu:a.eval x= .slice (ς ⟨b,0,ξ⟩) n cc)(hh:w.heap[b]?=ς (.cells arr e (0,0)))(ha:arr.size=cc*sz)(hlc:els.length<=cc)(hmx:cc<=maxLen)(hes:∀e∈els,e.length=sz)(hT:db w (E.T l) els b)(hF:¬E.F b)(hlq:l≠q)(hlx:l<nx)(hy:opT sl y= .v (.c (.w o2 m)))(ho2:go ob o2=ς (.row e sz ys (.s q) ζ))(hm:ys.length=m)(hk:gI o (xn (mg q l) sl)=ς sl')(hkb:gP o (uE (mg q l) ob)=ς ob')(hn:els.length=n)(hb:(n+m)*by_<=140737488355328)(h63:n+m<=9223372036854775807):
 Oper.wp P ⟨ς d,.call ⟨.builtin .append,#[x,y],#[t,t]⟩,ty,ps,af,gd⟩ a w (λa' w'=>∃E',Rel N cx E' ⟨(d,.v (.c (.w o (n+m))))::sl',(o,.row e sz (els++ys) (.s l) ζ)::ob',nx⟩ a' w') (λ_ _ _=>False):=by
 have h2:=hR.op y;rw[hy] at h2
 obtain⟨b2,c2,hr2,hv⟩:=h2
 obtain⟨b2',c2',arr2,hr2',hh2,ha2,hlc2,hmx2,hsz,hrd2,hF2,_,hT2⟩:=hR.obs o2 _ ho2
 rw[hr2] at hr2';cases hr2'
 obtain⟨n1,q2,n2⟩:=hT2.raw hh2 ha2 hlc2 hm hsz
 have hf:∀k,k<nx->mg q l k<nx:=λk hk=>by
  unfold mg
  cases d0 k q
  .exact hk
  exact hlx
 have hml:mg q l l=l:=by unfold mg;cases d0 l q<;>rfl
 have hmq:mg q l q=l:=by unfold mg;simp
 have hR1:=Ky (mg q l) hf hR
 refine JD (st:=⟨xn (mg q l) sl,uE (mg q l) ob,nx⟩) hR1 hrv hd hr hu hh ha oaa hmx hF hv n1 q2 n2 hk hkb hb h63 λbn cap cur w' k1 k2 k3 k4 k5 k6 k7 k8=>?_
 have hall:∀e'∈els++ys,e'.length=sz:=λe' he'=>(Zn.1 he').elim (hes e') (hsz e')
 have hne:∀j k,E.T j k->w'.heap[k]?=w.heap[k]?/\k≠bn:=λj k hk=>by
  obtain⟨a1,a2,a3,a4⟩:=hR.ok.sf.tb j k hk
  have hkb:k≠b:=λe=>a3 o cc (e▸hr)
  refine⟨k7 k a1.1 hkb,?_⟩
  rcases k8 with rfl|rfl
  .exact hkb
  omega
 have hTr:db w' ((E.rg (mg q l)).T l) (els++ys) bn:=
  hT.append hT2 hh hh2 k1 hn hm hes hsz (by rw[ha];exact ZI _ oaa) (by rw[ha2];exact ZI _ oaa) k5 (λk a1 a2=>hlq (hR.ok.sf.tt _ _ _ a1 a2)) (λk hk=>⟨(hne _ _ hk).1,⟨l,hml,hk⟩,(hne _ _ hk).2⟩) (λk hk=>⟨(hne _ _ hk).1,⟨q,hmq,hk⟩,(hne _ _ hk).2⟩)
 refine⟨bn,cap,cur,by simp[Env.upd],k1,k2,by simp;omega,k4,hall,?_,λ_=>k6,(λh=>by cases h),hTr⟩
 obtain⟨Q,a1,a2⟩:=hTr
 exact trLL_rd (λk b' hk=>(a1.1 k b' hk).1) a2
theorem Ki{by_ o o2 m:Nat}[ht:da P t e sz by_](hrv:rsp o=η)(hd:d<N)(hx:opT sl x= .v (.c (.w o n)))(hy:opT sl y= .v (.c (.w o2 m)))(ho:go ob o=ς (.row e sz els (.s l) ζ))(ho2:go ob o2=ς (.row e sz ys (.s q) ζ))(hlq:d0 l q=η)(hlx:nlt l nx=ζ)(hk:gI o (xn (mg q l) sl)=ς sl')(hkb:gP o (uE (mg q l) ob)=ς ob')(hn:els.length=n)(hm:ys.length=m)(hb:(n+m)*by_<=140737488355328)(h63:n+m<=9223372036854775807):
 AWO P N ⟨ς d,.call ⟨.builtin .append,#[x,y],#[t,t]⟩,ty,ps,af,gd⟩ ⟨sl,ob,nx⟩ ⟨(d,.v (.c (.w o (n+m))))::sl',(o,.row e sz (els++ys) (.s l) ζ)::ob',nx⟩:=by
 intro cx E a w hR
 have h1:=hR.op x;rw[hx] at h1
 obtain⟨b,cc,hr,hu⟩:=h1
 obtain⟨b',c',arr,hr',hh,ha,hlc,hmx,hes,hrd,hFm,_,hT⟩:=hR.obs o _ ho
 rw[hr] at hr';cases hr'
 exact wz hR hrv hd hr hu hh ha hlc hmx hes hT (hFm rfl) (eR hlq) (bO hlx) hy ho2 hm hk hkb hn hb h63
end
def exV:Value->D
 | .int k n=>.i k n
 | .bool b=>.b b
 | .string s=>.str s
 | .slice A n c=>.k A n c
 |_=>.b η
theorem DI{w':World}{F F':Nat->Prop}{d:D}(h:rdD w F d u):rdD w' F' (exV u) u/\cD (.d (.b ζ) (exV u))=ς (exV u,ζ)/\∀w' F' u',rdD w' F' (exV u) u'->u'=u:=by
 cases d<;>simp only[rdD] at h
 case l xs=>obtain⟨A,c,rfl,_⟩:=h;exact⟨by simp[exV,rdD],rfl,λ_ _ _ h=>by simpa [exV,rdD] using h⟩
 all_goals subst h;exact⟨by simp[exV,rdD],rfl,λ_ _ _ h=>by simpa [exV,rdD] using h⟩
theorem JO{w:World}{F:Nat->Prop}:∀{us:Lae},(∀u∈us,∃d,rdD w F d u)->csD (us.map λu=>.d (.b ζ) (exV u))=ς (us.map exV,ζ)
 |[],_=>rfl
 |u::us,h=>by
  obtain⟨d,hd⟩:=h u (by simp)
  rw[aac,csD,(DI (w':=w) (F':=F) hd).2.1,JO (us:=us) λu hu=>h u (by simp[hu])]
  rfl
theorem Pz{E:Env}{w w0:World}{F:Nat->Prop}:∀{us:Lae},(∀u∈us,∃d,rdD w0 F d u)->CV E w (us.map λu=>.d (.b ζ) (exV u)) us
 |[],_=>trivial
 |u::us,h=>⟨(DI (h u (by simp)).choose_spec).1,Pz λu hu=>h u (by simp[hu])⟩
theorem v_ex{v:V}{ns:List D}{gs:List (Option Nat)}(h:tvD v=ς (ns,gs))(hv:cvV E w v u):∃v',vD v'=ς (u.cells.toList.map exV,ζ)/\∀E',cvV E' w v' u:=by
 cases v with
 |c c=>
  cases h1:tcD c with
  |none=>simp[tvD,h1] at h
  |some p=>
   obtain⟨x,g1⟩:=p
   obtain⟨k1,k2,k3⟩:=K6 h1 hv
   refine⟨.c (.d (.b ζ) (exV u)),?_,λE'=>(DI k1.rd).1⟩
   have:=(DI (w':=w) (F':=E.F) k1.rd).2.1
   simp[vD,this,k3]
 |agg cs=>
  obtain⟨arr,rfl,hc⟩:=hv
  obtain⟨m1,m2,m3⟩:=Gy (show Gx cs=ς (ns,gs) from h) hc
  have hall:∀u∈arr.toList,∃d,rdD w (λ_=>True) d u:=λu hu=>by
   obtain⟨j,hj⟩:=Zx hu
   have hjl:j<ns.length:=by rw[m1];exact(v0.1 hj).1
   obtain⟨u',g,n1,n2,n3⟩:=m3 j _ (Zl hjl)
   rw[hj] at n1;cases n1
   exact⟨_,n3.rdF λ_ _=>trivial⟩
  exact⟨.agg (arr.toList.map λu=>.d (.b ζ) (exV u)),by rw[vD,JO hall];rfl,λE'=>⟨arr,rfl,Pz hall⟩⟩
theorem MR{ob:Laa}{cx:Cx}(f:Nat->Nat)(hf:∀k,k<nx->f k<nx')(hn:nx<=nx')(hR:Rel N cx E ⟨sl,ob,nx⟩ a w):Rel N cx (E.rg f) ⟨xn f sl,uE f ob,nx'⟩ a w:=by
 have ok:=hR.ok
 refine⟨⟨ok.fb,ok.gf,ok.gn,ok.rb,ok.inj,ok.os,ok.tape,ok.output,ok.size,ok.block,ok.pin,ok.ff,ok.gc,M8 ok.sf⟩,λo x h=>Zy (hR.dom o x h) hn,λo x h=>?_,λk=>?_,hR.dfr,hR.size,λl b ⟨k,h1,h2⟩=>by subst h1;exact hf k (hR.td k b h2)⟩
 .rw[Fp] at h
  cases hg:go ob o with
  |none=>rw[hg] at h;cases h
  |some y=>rw[hg] at h;cases h;exact rg_O (hR.obs o y hg)
 rw[Fq];exact WM (hR.sl k)
section
variable{P:Program}{N:Nat}{d:Tmp}{ty:TypeId}{ps:String}{af:Array Edge}{gd:Option (Nat×Bool)}{p:Operand}{sl:Lab}{ob:Laa}{nx:Nat}
theorem Ov{by_:Nat}{v:V}{ns:List D}{gs:List (Option Nat)}[ht:da P t e sz by_](hd:nlt d N=ζ)(hx:opT sl p= .v v)(hv:tvD v=ς (ns,gs))(hg:yu nx gs=ζ)(hs:d0 ns.length sz=ζ)(h24:Zw sz 16777216=ζ)(hrv:rsv nx=η):
 AWO P N ⟨ς d,.buildSlice t 1 #[(0,p)],ty,ps,af,gd⟩ ⟨sl,ob,nx⟩ ⟨(d,.v (.c (.w nx 1)))::xn (mgs gs nx) sl,(nx,.row e sz [ns] (.s nx) ζ)::uE (mgs gs nx) ob,nx+1⟩:=by
 intro cx E a w hR
 have h1:=hR.op p;rw[hx] at h1
 obtain⟨v1,v2,v3⟩:=Ty hv h1
 obtain⟨v',e1,e2⟩:=v_ex hv h1
 have hsz:=Zo hs
 have hf:∀k,k<nx->mgs gs nx k<nx+1:=λk hk=>by
  unfold mgs
  cases xg k gs
  .exact aaL hk
  exact aaP _
 have hR1:=MR (mgs gs nx) hf (Nat.le_succ _) hR
 have hfr:E.r nx=none:=by
  cases hq:E.r nx with
  |none=>rfl
  |some x=>have:=hR.dom _ _ hq;exact absurd this (aaO _)
 have hT0:∀b,¬E.T nx b:=λb h=>absurd (hR.td _ _ h) (aaO _)
 have hcl:(a.eval p).cells.toList.length=sz:=by simp;omega
 have hb:=tW (P:=P) (d:=ς d) (ty:=ty) (ps:=ps) (af:=af) (gd:=gd) (t:=t) (e:=e) (sz:=sz) (by_:=by_) (len:=1) (l:=nx) (parts:=[(0,p)]) (vs:=[v']) (els:=[(a.eval p).cells.toList.map exV]) (g:=ζ) rfl rfl rfl (by simp[vsD,e1]) (by simp[J6,hcl]) (by have:=ZK h24;omega)
  cx (E.rg (mgs gs nx)) a w hR1.ok (λx t hm=>by simp at hm;obtain⟨rfl,rfl⟩:=hm;exact e2 _) (λ_ _ h=>by cases h) (λl ob hm=>by simp at hm;obtain⟨rfl,rfl⟩:=hm;exact⟨hfr,hrv⟩)
 refine Oper.wp_mono ?_ hb
 rintro a' w' ⟨u,E',rfl,ok',ext,hvu,hob,hdom⟩
 obtain⟨b,c,arr,hr',hh,ha,hlc,hmx,hes,hrd,hF,_⟩:=hob _ _ (.head _)
 have hbn:w.heap.size<=b\/b<w.heap.size:=by omega
 have hnT:∀k b',E.T k b'->b'≠b:=λk b' h=>by
  have:E'.T (mgs gs nx k) b':=ext.T _ _ ⟨k,rfl,h⟩
  intro e;subst e
  exact(ok'.sf.tb _ _ this).2.2.1 nx c hr'
 have hcell:∀(j:Nat) (xd:D),ns[j]?=ς xd->∃u' g,w'.cell? ⟨b,j,ξ⟩=ς u'/\gs[j]?=ς g/\eT w (TL E g) xd u':=λj xd hj=>by
  obtain⟨c',g,c1,c2,c3⟩:=v3 j xd hj
  have hj2:((a.eval p).cells.toList.map exV)[j]?=ς (exV c'):=by rw[ZH];simp[c1]
  have hr2:rdL w' (E'.H ζ) ((a.eval p).cells.toList.map exV) b 0:=by rw[rdLL] at hrd;exact hrd.1
  obtain⟨u',u1,u2⟩:=iA hr2 hj2
  rw[Zs] at u1
  have:=(DI (w':=w) (F':=E.F) c3.rd).2.2 _ _ _ u2
  subst this
  exact⟨u',g,u1,c2,c3⟩
 have hTr:db w' (E'.T nx) [ns] b:=by
  refine db.keep (w:=w') (T:=(E.rg (mgs gs nx)).T nx) ?_ rfl (λ_ _=>rfl) (λb h=>ext.T _ _ h)
  refine db.iff.2 ⟨λk b'=>∃g,gs[k]?=ς g/\TL E g b',⟨λk b' hk=>?_,λk k' b' hk hk'=>?_⟩,λj xd hj=>?_⟩
  .obtain⟨g,g1,g2⟩:=hk
   cases g with
   |none=>exact g2.elim
   |some m=>exact⟨⟨m,by unfold mgs;rw[vO g1];rfl,g2⟩,hnT _ _ g2⟩
  .obtain⟨g,g1,g2⟩:=hk
   obtain⟨g',g1',g2'⟩:=hk'
   cases g with
   |none=>exact g2.elim
   |some m=>
    cases g' with
    |none=>exact g2'.elim
    |some m'=>
     have:=hR.ok.sf.tt _ _ _ g2 g2';subst this
     exact AS hg g1 g1'
  simp at hj
  obtain⟨u',g,u1,u2,u3⟩:=hcell j xd hj
  refine⟨u',u1,u3.keep (λb' hb'=>?_) λb' hb'=>⟨g,u2,hb'⟩⟩
  cases g with
  |none=>exact hb'.elim
  |some m=>exact ext.heap b' (hR.ok.sf.tb m b' hb').1.1
 refine⟨E',ok',λl x hl=>?_,λl ob hl=>?_,λk=>?_,hR1.dfr,by simpa [Act.put] using hR1.size,?_⟩
 .rcases hdom l x hl with h|⟨ob,h⟩
  .exact hR1.dom l x h
  simp at h;obtain⟨rfl,_⟩:=h;exact aaP _
 .by_cases e:nx=l
  .subst e
   rw[bM] at hl;cases hl
   refine⟨b,c,arr,hr',hh,ha,by simpa using hlc,hmx,λe' he'=>by simp at he';subst he';omega,?_,hF,(λh=>by cases h),hTr⟩
   obtain⟨Q,a1,a2⟩:=hTr
   exact trLL_rd (λk b' hk=>(a1.1 k b' hk).1) a2
  rw[a9 _ _ e] at hl
  exact vW hR1.ok ext (hR1.obs l ob hl)
 .rw[eK (by rw[hR1.size];exact bO hd)]
  by_cases hk:d=k
  .subst hk;rw[cG,if_pos rfl];exact hvu
  rw[b7 _ _ hk,if_neg hk];exact iw (.of_ext hR1.ok ext) (hR1.sl k)
 intro l b h
 rcases ext.T' l b h with h|⟨h0,x,h⟩
 .exact hR1.td l b h
 rcases hdom l x h with h|⟨ob,h⟩
 .rw[h0] at h;cases h
 simp at h;obtain⟨rfl,_⟩:=h;exact aaP _
end
section
variable{P:Program}{N:Nat}{d:Tmp}{ty:TypeId}{ps:String}{af:Array Edge}{gd:Option (Nat×Bool)}{x y z:Operand}{sl:Lab}{ob:Laa}{nx:Nat}
theorem Ig{by_ o o2 m:Nat}[ht:da P t e sz by_](hrv:rsp o=η)(hnv:rsv nx=η)(hd:d<N)(hx:opT sl x= .v (.c (.wn o n)))(hy:opT sl y= .v (.c (.w o2 m)))(ho:go ob o=ς (.rown e sz els (.s l)))(ho2:go ob o2=ς (.row e sz ys (.s q) ζ))(hlq:d0 l q=η)(hlx:nlt l nx=ζ)(hk:gI o (xn (mg q l) sl)=ς sl')(hkb:gP o (uE (mg q l) ob)=ς ob')(hn:els.length=n)(hm:ys.length=m)(hm0:0<m)(hol:o<nx)(hb:(n+m)*by_<=140737488355328)(h63:n+m<=9223372036854775807):
 AWO P N ⟨ς d,.call ⟨.builtin .append,#[x,y],#[t,t]⟩,ty,ps,af,gd⟩ ⟨sl,ob,nx⟩ ⟨(d,.v (.c (.w o (n+m))))::sl',(o,.row e sz (els++ys) (.s l) ζ)::ob',nx⟩:=by
 intro cx E0 a w hR0
 have h1:=hR0.op x;rw[hx] at h1
 have h3:=hR0.obs o _ ho
 have hf:∀k,k<nx->mg q l k<nx:=λk hk=>by
  unfold mg
  cases d0 k q
  .exact hk
  exact bO hlx
 have hmq:mg q l q=l:=by unfold mg;simp
 have hR:=Ky (mg q l) hf hR0
 have hEn:∀k,(E0.rg (mg q l)).n k↔E0.n k:=λ_=>Iff.rfl
 have hEr:(E0.rg (mg q l)).r=E0.r:=rfl
 have hEF:(E0.rg (mg q l)).F=E0.F:=rfl
 have hTl:∀b,E0.T q b->(E0.rg (mg q l)).T l b:=λb h=>⟨q,hmq,h⟩
 revert hR hEn hEr hEF hTl
 generalize E0.rg (mg q l)=E
 intro hR hEn hEr hEF hTl
 rcases h1 with⟨hE,h0,hu⟩|⟨hE,b,cc,hr,hu⟩
 .subst h0
  have hels:els=[]:=ZS hn
  subst hels
  have hq1:E.r nx=none:=by
   cases hq:E.r nx with
   |none=>rfl
   |some p=>have:=hR.dom _ _ hq;exact absurd this (aaO _)
  have hoq:o≠nx:=by omega
  have h2:=hR0.op y;rw[hy] at h2
  obtain⟨b2,c2,hr2,hv2⟩:=h2
  obtain⟨b2',c2',arr2,hr2',hh2,ha2,hlc2,hmx2,hsz,hrd2,hF2,_,hT2⟩:=hR0.obs o2 _ ho2
  rw[hr2] at hr2';cases hr2'
  obtain⟨n1,q2,n2⟩:=hT2.raw hh2 ha2 hlc2 hm hsz
  refine Oper.wp_mono ?_ (Bf (P:=P) (d:=d) (ty:=ty) (ps:=ps) (af:=af) (gd:=gd) (t:=t) (q:=nx) (NEW:=.row e sz ys (.s l) ζ) hm0 (by simpa using hb) oaa hR.ok hq1 hnv hu hv2 n1 q2 n2 (λbn cap cur w' k1 k2 k3 k4 k5 k6 k7 k8=>by
   have hT':db w' (E.T l) ys bn:=by
    have:=(db.append (w:=w) (w':=w') (T1:=λ_=>False) (T':=E.T l) (els:=[]) (n:=0) (e:=e) (arr:=arr2) (b:=b2) ⟨λ_ _=>False,⟨λ_ _ h=>h.elim,λ_ _ _ h=>h.elim⟩,by simp[trLL]⟩ hT2 hh2 hh2 k1 rfl hm (by simp) hsz (by simp) (by rw[ha2];exact ZI _ oaa) (by simpa using k5) (λ_ h=>h.elim) (λ_ h=>h.elim) (λk hk=>⟨k7 k (hR0.ok.sf.tb q k hk).1.1,hTl k hk,λe=>by have:=(hR0.ok.sf.tb q k hk).1.1;omega⟩))
    simpa using this
   refine⟨bn,cap,cur,by simp[Env.new],k1,k2,by omega,k4,hsz,?_,λ_=>k6,(λh=>by cases h),hT'⟩
   obtain⟨Q,a1,a2⟩:=hT'
   exact trLL_rd (λk b' hk=>(a1.1 k b' hk).1) a2))
  rintro a' w' ⟨v,E1,rfl,ok1,ext,hv,hob1,hdom0⟩
  have hdom:∀l x,E1.r l=ς x->E.r l=ς x\/l=nx:=λl x h=>hdom0 l x h
  obtain⟨bn,cap,hrq,hvu⟩:=hv
  obtain⟨bn',cap',arr,hrq',hhn,j3,j4,j5,j6,j7,j8,_,j9⟩:=hob1
  rw[hrq] at hrq';cases hrq'
  have hrE:∀l p,E1.r l=ς p->l=nx\/E.r l=ς p:=λl p h=>by
   grind
  let E2:Env:={E1 with r:=λl=>if l=o then ς (bn,cap) else if l=nx then ξ else E1.r l,T:=λl b=>l≠nx/\E1.T l b,n:=λl=>l≠o/\E.n l}
  have hr2:∀l b c,E2.r l=ς (b,c)->(l=o/\b=bn/\c=cap)\/(l≠o/\l≠nx/\E1.r l=ς (b,c)):=by
   intro l b c h
   have h:(if l=o then ς (bn,cap) else if l=nx then ξ else E1.r l)=ς (b,c):=h
   split at h
   .simp_all
   simp_all
  have hback:∀l b c,E2.r l=ς (b,c)->∃l',E1.r l'=ς (b,c):=by
   intro l b c h
   rcases hr2 l b c h with⟨_,rfl,rfl⟩|⟨_,_,h⟩
   .grind
   grind
  have ok2:cF cx E2 w':=by
   refine⟨ok1.fb,ok1.gf,ok1.gn,λl b c h=>?_,λl l' b c c' h h'=>?_,ok1.os,ok1.tape,ok1.output,ok1.size,ok1.block,λl p hv h=>?_,ok1.ff,ok1.gc,⟨λl b h=>?_,λl l' b h h'=>ok1.sf.tt l l' b h.2 h'.2,λb h=>?_,ok1.sf.zs,ok1.sf.ze⟩⟩
   .rcases hr2 l b c h with⟨_,rfl,rfl⟩|⟨_,_,h⟩
    .obtain⟨k1,k2⟩:=ok1.rb _ _ _ hrq
     simp_all
    exact ok1.rb l b c h
   .rcases hr2 l b c h with⟨rfl,rfl,rfl⟩|⟨k1,k2,k3⟩<;>rcases hr2 l' _ c' h' with⟨rfl,e1,e2⟩|⟨m1,m2,m3⟩
    .rfl
    .exact absurd (ok1.inj _ _ _ _ _ m3 hrq) m2
    .subst e1;exact absurd (ok1.inj _ _ _ _ _ k3 hrq) k2
    exact ok1.inj _ _ _ _ _ k3 m3
   .obtain⟨b,c⟩:=p
    rcases hr2 l b c h with⟨rfl,_⟩|⟨_,_,h⟩
    .simp_all
    exact ok1.pin l _ hv h
   .obtain⟨k1,k2,k3,k4⟩:=ok1.sf.tb l b h.2
    grind
   obtain⟨k1,k2,k3,k4⟩:=ok1.sf.zc b h
   grind
  have kp:=gb.of_ext hR.ok ext
  have kb:eg o E w E2 w':=⟨λl p hl h=>by
   show(if l=o then ς (bn,cap) else if l=nx then ξ else E1.r l)=ς p
   rw[if_neg hl,if_neg (λe=>by simp_all)]
   exact kp.r _ _ h,kp.H,kp.heap,λl b h=>⟨⟨λe=>absurd (hR.td l b h) (by rw[e];exact aaO _),(kp.T l b h).1⟩,(kp.T l b h).2⟩,kp.Z,λl hl=>⟨λh=>h.2,λh=>⟨hl,h⟩⟩⟩
  have hFb:∀b,b<w.heap.size->¬E.F b->¬E2.F b:=λb hb hn h=>(ext.F' b h).elim hn oaa
  refine⟨E2,ok2,λl p h=>?_,λl ob hl=>?_,λk=>?_,hR.dfr,by simpa [Act.put] using hR.size,λl b h=>(ext.T' l b h.2).elim (hR.td l b) λ⟨k0,x,k⟩=>(hrE _ _ k).elim (λe=>absurd e h.1) λe=>by rw[k0] at e;cases e⟩
  .obtain⟨b,c⟩:=p
   rcases hr2 l b c h with⟨rfl,_⟩|⟨_,k2,h⟩
   .exact hol
   rcases hrE _ _ h with h|h
   .omega
   exact hR.dom _ _ h
  .by_cases hlo:o=l
   .subst hlo
    rw[bM] at hl;cases hl
    refine⟨bn,cap,arr,by grind,hhn,j3,by simp_all,j5,by simp_all,?_,λ_=>j8 rfl,(λh=>by cases h),?_⟩
    .rw[aab];exact bS (F:=E1.T l) (λ_ _=>rfl) (λb hb=>⟨aaH (bO hlx),hb⟩) rfl _ _ j7
    rw[aab];exact db.keep (T:=E1.T l) j9 rfl (λ_ _=>rfl) (λb hb=>⟨aaH (bO hlx),hb⟩)
   rw[a9 _ _ hlo] at hl
   rcases n9 hkb hl with⟨t',cs,cs',k1,k2,rfl⟩|⟨t',sz',els',g',m',k1,rfl⟩|⟨t',sz',els',g',k1,rfl⟩|⟨j',y',k1,rfl⟩
   .obtain⟨bl,cl,arrl,l1,l2,l3,l4⟩:=hR.obs l _ k1
    have hbl:=(hR.ok.rb _ _ _ l1).1
    exact⟨bl,cl,arrl,kb.r _ _ (Ne.symm hlo) l1,(ext.heap bl hbl).trans l2,pG kb k2 l3,hFb bl hbl l4⟩
   .obtain⟨bl,cl,arrl,l1,l2,l3,l4,l5,l6,l7,l8,l9⟩:=hR.obs l _ k1
    have hbl:=(hR.ok.rb _ _ _ l1).1
    have hb2:=ext.heap bl hbl
    exact⟨bl,cl,arrl,kb.r _ _ (Ne.symm hlo) l1,hb2.trans l2,l3,l4,l5,l6,bS (kb.hp _) (kb.HH _) hb2 _ _ l7,λhm=>hFb bl hbl (l8 hm),λhm=>⟨kb.H η _ (l9.1 hm).1,λhg=>kb.H ζ _ ((l9.1 hm).2 hg)⟩,kU kb hb2 l9.2⟩
   .rcases hR.obs l _ k1 with⟨m1,m2⟩|⟨l0,bl,cl,arrl,l1,l2,l3,l4,l5,l6,l7,l8⟩
    .exact .inl ⟨⟨Ne.symm hlo,m1⟩,m2⟩
    have hbl:=(hR.ok.rb _ _ _ l1).1
    have hb2:=ext.heap bl hbl
    exact .inr ⟨λh=>l0 h.2,bl,cl,arrl,kb.r _ _ (Ne.symm hlo) l1,hb2.trans l2,l3,l4,l5,l6,bS (kb.hp _) (kb.HH _) hb2 _ _ l7,hFb bl hbl l8.1,kU kb hb2 l8.2⟩
   rcases hR.obs l _ k1 with⟨m1,m2⟩|⟨l0,bl,cl,l1,l2,l3⟩
   .exact .inl ⟨⟨Ne.symm hlo,m1⟩,m2⟩
   have hbl:=(hR.ok.rb _ _ _ l1).1
   have hb2:=ext.heap bl hbl
   exact .inr ⟨λh=>l0 h.2,bl,cl,kb.r _ _ (Ne.symm hlo) l1,y'.st _ _ _ _ _ _ l2 (λk hk=>(kb.T _ k hk).1) hb2 (λk hk=>(kb.T _ k hk).2),hFb bl hbl l3⟩
  rw[eK (by rw[hR.size];exact hd)]
  by_cases hdk:d=k
  .subst hdk;rw[cG,if_pos rfl];exact⟨bn,cap,by grind,by simp_all⟩
  rw[b7 _ _ hdk,if_neg hdk]
  rcases qj hk k with h|⟨h,h'⟩
  .rw[h];trivial
  rw[h];exact xV kb h' (hR.sl k)
 rcases h3 with⟨hE',_⟩|⟨_,b',c',arr,hr',hh,ha,hlc,hmx,hes,hrd,hF⟩
 .simp_all
 rw[hr] at hr';cases hr'
 exact wz hR0 hrv hd hr hu hh ha hlc hmx hes hF.2 hF.1 (eR hlq) (bO hlx) hy ho2 hm hk hkb hn hb h63
end
theorem db.rdT{T:Nat->Prop}(h:db w T els b):rdLL w T els b 0:=by
 obtain⟨Q,a1,a2⟩:=h
 exact trLL_rd (λk b' hk=>(a1.1 k b' hk).1) a2
theorem EI{ty:Nat}{ob:Laa}{g:Gr}(o:Nat)(ho:go ob o=ς (.row ty sz els g ζ))(hg:∀e∈els,scB e=ζ):cB N ⟨sl,ob,nx⟩ ⟨sl,(o,.row ty sz els (.s l) ζ)::ob,nx⟩:=by
 intro cx E a w hR
 refine⟨E,hR.ok,hR.dom,λk x hk=>?_,hR.sl,hR.dfr,hR.size,hR.td⟩
 by_cases e:o=k
 .subst e
  rw[bM] at hk;cases hk
  obtain⟨b,c,arr,hr,hh,ha,hlc,hmx,hes,hrd,hF,_,_⟩:=hR.obs o _ ho
  have hT:db w (E.T l) els b:=db.flat hg hrd
  exact⟨b,c,arr,hr,hh,ha,hlc,hmx,hes,hT.rdT,hF,(λh=>by cases h),hT⟩
 rw[a9 _ _ e] at hk;exact hR.obs k x hk
theorem Lh{ty:Nat}{ob:Laa}{g:Gr}(o:Nat)(ho:go ob o=ς (.rown ty sz els g))(hg:∀e∈els,scB e=ζ):cB N ⟨sl,ob,nx⟩ ⟨sl,(o,.rown ty sz els (.s l))::ob,nx⟩:=by
 intro cx E a w hR
 refine⟨E,hR.ok,hR.dom,λk x hk=>?_,hR.sl,hR.dfr,hR.size,hR.td⟩
 by_cases e:o=k
 .subst e
  rw[bM] at hk;cases hk
  rcases hR.obs o _ ho with h|⟨h0,b,c,arr,hr,hh,ha,hlc,hmx,hes,hrd,hF,_⟩
  .exact .inl h
  have hT:db w (E.T l) els b:=db.flat hg hrd
  exact .inr ⟨h0,b,c,arr,hr,hh,ha,hlc,hmx,hes,hT.rdT,hF,hT⟩
 rw[a9 _ _ e] at hk;exact hR.obs k x hk
def clC:C->Bool
 | .d (.t _) _=>ζ
 | .d (.b ζ) _=>ζ
 | .d _ (.i _ _)=>ζ
 | .d _ (.b _)=>ζ
 | .d _ (.str _)=>ζ
 | .nil=>ζ
 |_=>η
def clCs:List C->Bool
 |[]=>ζ
 |c::cs=>clC c&&clCs cs
def clV:V->Bool
 | .c c=>clC c
 | .agg cs=>clCs cs
def clVs:List V->Bool
 |[]=>ζ
 |c::cs=>clV c&&clVs cs
section
variable{E E2:Env}{w:World}{f:Nat->Nat}(hG:∀b,E.G b->E2.G b)(hT:∀l b,E.T l b->E2.T (f l) b)
include hG hT
end
def outV:List V->T
 |[v]=>.v v
 |vs=>.tup vs
structure FnT(P:Program)(f:FuncId)(args:List AV)(out:List V)(k:Nat):Prop where
 cl:clVs out=ζ
 enters:∀(vs:Array Value) (w:World),(callFunc f vs).run P w= .ok (.enter f vs) w
 calls:∀(F:Nat->Prop) (w:World) (vals:Array Value),(∀b,F b->b<w.heap.size)->TabsIn w->AR w F args vals.toList->
  Calls P f vals w λe w'=>∃(v:Value) (G:Nat->Prop) (T:Nat->Nat->Prop),e= .returned v/\zk w w' (λ_=>False)/\(∀b,G b->w.heap.size<=b/\b<w'.heap.size/\eJ w' b)/\
   (∀l b,T l b->l<k/\(w.heap.size<=b/\b<w'.heap.size/\eJ w' b)/\¬G b)/\(∀l l' b,T l b->T l' b->l=l')/\cvT {r:=λ_=>ξ,F:=G,G:=G,T:=T} w' (outV out) v
def FinT(P:Program)(rs:List ResultVar)(out:List V)(k:Nat)(s:St):Prop:=∃vs,it P s rs vs/\vs=out/\s.nx<=k
def Wo(N:Nat)(P:Program)(rs:List ResultVar)(out:List V)(k:Nat):Exit->St->Prop
 | .normal,s| .ret,s=>∃s',cB N s s'/\FinT P rs out k s'
 |_,_=>False
section
variable{P:Program}{N:Nat}{d:Tmp}{ty:TypeId}{ps:String}{af:Array Edge}{gd:Option (Nat×Bool)}{sl:Lab}{ob:Laa}{nx:Nat}
end
instance {N:Nat} {P:Program} {rs:List ResultVar} {out:List V} {k:Nat}:Clo N (Wo N P rs out k):=⟨λe s m hw h=>by
 cases e<;>simp only[Wo] at h ⊢<;>first|exact h|(obtain⟨s',h1,h2⟩:=h;exact⟨s',aK hw h1,h2⟩)⟩
def Gr.rl(rm:Lac):Gr->Option Gr
 | .b g=>ς (.b g)
 | .s l=>match bQ rm l with
  |some k=>ς (.s k)
  |none=>ξ
 | .t l=>match bQ rm l with
  |some k=>ς (.t k)
  |none=>ξ
def xo(rm m:Lac):C->Option C
 | .d g x=>match g.rl rm with
  |some g'=>ς (.d g' x)
  |none=>ξ
 |c=>rlC m c
def yG(rm:Lac)(ob:Laa)(m:Lac):C->Option C
 | .d g x=>match g.rl rm with
  |some g'=>ς (.d g' x)
  |none=>ξ
 |c=>rlB ob m c
def GQ(rm:Lac)(up:Bool)(ob:Laa)(m:Lac):C->Option C
 | .d (.b g) x=>ς (.d (up&&g) x)
 | .nil=>ς (.d up (.l []))
 |c=>yG rm ob m c
def qw(rm:Lac)(f:C->Option C):Ob->Option Ob
 | .var t cs=>match jG f cs with
  |some cs'=>ς (.var t cs')
  |none=>ξ
 | .row t sz els g ζ=>match g.rl rm with
  |some g'=>ς (.row t sz els g' ζ)
  |none=>ξ
 | .row .. =>ξ
 | .rown t sz els g=>match g.rl rm with
  |some g'=>ς (.rown t sz els g')
  |none=>ξ
 | .abs j z=>match bQ rm j with
  |some k=>ς (.abs k z)
  |none=>ξ
def uZ(rmi mi:Lac)(ob:Laa):Lac->Option Laa
 |[]=>ς []
 |(k,o)::r=>match go ob o with
  |some x=>match qw rmi (yG rmi ob mi) x,uZ rmi mi ob r with
   |some y,ς ys=>ς ((k,y)::ys)
   |_,_=>ξ
  |none=>ξ
def sL(rm m:Lac):Laa->Option Laa
 |[]=>ς []
 |(k,x)::r=>match bQ m k,qw rm (xo rm m) x,sL rm m r with
  |some o,ς y,ς ys=>ς ((o,y)::ys)
  |_,_,_=>ξ
def Gr.okR(rmi:Lac):Gr->Bool
 | .b _=>ζ
 | .s l| .t l=>(bQ rmi l).isNone
def DX(ys:Laa)(k:Nat):Bool:=match go ys k with
 |some (.var ..)=>ζ
 |some (.row ..)=>ζ
 |_=>η
theorem BP{ys:Laa}(h:DX ys k=ζ)(hY:∀l y,go ys l=ς y->cg E w l y):∃x,E.r k=ς x:=by
 unfold DX at h
 split at h
 .rename_i t cs hg;obtain⟨b,c,arr,q,_⟩:=hY _ _ hg;exact⟨_,q⟩
 .rename_i t sz els g m hg;obtain⟨b,c,arr,q,_⟩:=hY _ _ hg;exact⟨_,q⟩
 cases h
def XT(m nl:Lac)(nx n:Nat)(ys:Laa):Bool:=
 ((gm ((m++nl).map (·.1))&&gm ((m++nl).map (·.2)))&&(m.all (λp=>rsv p.1&&nlt p.2 nx)&&G7 nx nl n))&&
  ((m.all (λp=>rsp p.1||rsv p.2)||m.all (λp=>rsp p.1||!rsv p.2))&&m.all (λp=>(!rsp p.2||rsp p.1)&&((!rsp p.1||DX ys p.1)&&(go ys p.1).isSome)))
def tT(rmi mi:Lac):C->Option C
 | .w l n=>match bQ mi l with
  |some k=>match rsp k with
   |true=>ς (.w l n)
   |false=>ς .any
  |none=>ς (.w l n)
 | .d g x=>match g.okR rmi with
  |true=>ς (.d g x)
  |false=>ς .any
 | .q g x j=>match g.okR rmi with
  |true=>ς (.q g x j)
  |false=>ς .any
 | .r l x=>match(Gr.s l).okR rmi with
  |true=>ς (.r l x)
  |false=>ς .any
 |c=>kvC mi c
def U7(rmi mi:Lac)(l:Nat)(x:Ob):Option Ob:=match bQ mi l,x with
 |some _,x=>ς x
 |none,.row t sz els g m=>match g.okR rmi with
  |true=>ς (.row t sz els g m)
  |false=>ξ
 |none,.rown t sz els g=>match g.okR rmi with
  |true=>ς (.rown t sz els g)
  |false=>ξ
 |none,.abs j z=>match(Gr.s j).okR rmi with
  |true=>ς (.abs j z)
  |false=>ξ
 |none,.var t cs=>ς (.var t cs)
def Ob.okR(rmi:Lac):Ob->Bool
 | .row _ _ _ g _=>g.okR rmi
 | .rown _ _ _ g=>g.okR rmi
 | .abs j _=>(Gr.s j).okR rmi
 | .var .. =>ζ
theorem U8{rmi mi:Lac}(h0:bQ mi l=ξ)(h:U7 rmi mi l x=ς y):y=x/\x.okR rmi=true:=by
 unfold U7 at h
 rw[h0] at h
 cases x<;>simp only at h
 case var=>cases h;exact⟨rfl,rfl⟩
 all_goals
  split at h
  .rename_i h1;cases h;exact⟨rfl,h1⟩
  cases h
theorem oS{rmi:Lac}{g:Gr}(h:g.okR rmi=ζ):(match g with| .b _=>True| .s l=>bQ rmi l=ξ| .t l=>bQ rmi l=ξ):=by
 cases g with
 |b g=>trivial
 |s l=>simpa [Gr.okR] using h
 |t l=>simpa [Gr.okR] using h
theorem XR{g:Gr}{x:D}(h:(C.d g x).lt n=ζ):g.lt n:=by
 cases g with
 |b g=>trivial
 |s l=>exact bO h
 |t l=>exact bO h
theorem Vb{g:Gr}{x:List D}(h:(C.q g x j).lt n=ζ):g.lt n:=by
 cases g with
 |b g=>trivial
 |s l=>exact bO h
 |t l=>exact bO h
theorem Mk{t:Nat}{g:Gr}(h:(Ob.row t sz els g m).lt n=ζ):g.lt n:=by
 cases g with
 |b g=>trivial
 |s l=>exact bO h
 |t l=>exact bO h
theorem H2{t:Nat}{g:Gr}(h:(Ob.rown t sz els g).lt n=ζ):g.lt n:=by
 cases g with
 |b g=>trivial
 |s l=>exact bO h
 |t l=>exact bO h
def UC(nx:Nat):Lac->Nat->Bool
 |[],n=>d0 n nx
 |(_,o)::r,n=>d0 o nx&&UC (nx+1) r n
theorem LC:∀{nl:Lac} {nx n:Nat},UC nx nl n=ζ->nx<=n/\∀k o,(k,o)∈nl->nx<=o/\o<n
 |[],nx,n,h=>by have:=Zo h;exact⟨by omega,λ_ _ h=>by cases h⟩
 |(k,o)::r,nx,n,h=>by
  simp only[UC,hV] at h
  have:=Zo h.1
  subst this
  obtain⟨k1,k2⟩:=LC h.2
  refine⟨by omega,λk' o' hm=>?_⟩
  rcases Zp.1 hm with e|hm
  .cases e;omega
  have:=k2 _ _ hm;omega
def Yq(rm nr:Lac)(nx n n':Nat):Bool:=
 ((gm ((rm++nr).map (·.1))&&gm ((rm++nr).map (·.2)))&&rm.all (λp=>nlt p.1 210&&nlt p.2 nx))&&UC n nr n'
theorem Ea{rmi mi:Lac}{ob:Laa}:∀{m:Lac} {xs:Laa} {l:Nat} {x:Ob},uZ rmi mi ob m=ς xs->go xs l=ς x->∃o x0,bQ m l=ς o/\go ob o=ς x0/\qw rmi (yG rmi ob mi) x0=ς x
 |[],xs,l,x,h,hg=>by simp[uZ] at h;subst h;cases hg
 |(k,o)::r,xs,l,x,h,hg=>by
  simp only[uZ] at h
  split at h
  .rename_i x0 h0
   split at h
   .rename_i y ys h1 h2
    simp at h;subst h
    by_cases e:k=l
    .subst e;rw[bM] at hg;cases hg;exact⟨o,x0,by simp[bQ],h0,h1⟩
    rw[a9 _ _ e] at hg
    obtain⟨o',x',a1,a2,a3⟩:=Ea h2 hg
    exact⟨o',x',by simp only[bQ,gJ e];exact a1,a2,a3⟩
   cases h
  cases h
theorem Cf{rmi mi:Lac}{ob:Laa}:∀{m:Lac} {xs:Laa} {k o:Nat},uZ rmi mi ob m=ς xs->(k,o)∈m->∃x0 x,go ob o=ς x0/\qw rmi (yG rmi ob mi) x0=ς x
 |(k',o')::r,xs,k,o,h,hm=>by
  simp only[uZ] at h
  split at h
  .rename_i x0 h0
   split at h
   .rename_i y ys h1 h2
    rcases Zp.1 hm with e|hm
    .cases e;exact⟨x0,y,h0,h1⟩
    exact Cf h2 hm
   cases h
  cases h
theorem zW{rm m:Lac}(hinj:∀a a' b,bQ m a=ς b->bQ m a'=ς b->a=a'):∀{ys ys':Laa} {o:Nat} {y':Ob},sL rm m ys=ς ys'->go ys' o=ς y'->∃k y,bQ m k=ς o/\go ys k=ς y/\qw rm (xo rm m) y=ς y'
 |[],ys',o,y',h,hg=>by simp[sL] at h;subst h;cases hg
 |(k,x)::r,ys',o,y',h,hg=>by
  simp only[sL] at h
  split at h
  .rename_i o1 y1 ys1 h1 h2 h3
   simp at h;subst h
   by_cases e:o1=o
   .subst e;rw[bM] at hg;cases hg;exact⟨k,x,h1,bM _ _ _,h2⟩
   rw[a9 _ _ e] at hg
   obtain⟨k',y,a1,a2,a3⟩:=zW hinj h3 hg
   have hne:k≠k':=λe'=>by simp_all
   exact⟨k',y,a1,by rw[a9 _ _ hne];exact a2,a3⟩
  cases h
theorem Ah{rm m:Lac}:∀{ys ys':Laa} {k:Nat} {y:Ob},sL rm m ys=ς ys'->go ys k=ς y->∃o,bQ m k=ς o/\go ys' o≠ξ
 |(k',x)::r,ys',k,y,h,hg=>by
  simp only[sL] at h
  split at h
  .rename_i o1 y1 ys1 h1 h2 h3
   simp at h;subst h
   by_cases e:k'=k
   .subst e;exact⟨o1,h1,by rw[bM];simp⟩
   rw[a9 _ _ e] at hg
   obtain⟨o,a1,a2⟩:=Ah h3 hg
   refine⟨o,a1,?_⟩
   by_cases e2:o1=o
   .subst e2;rw[bM];simp
   rw[a9 _ _ e2];exact a2
  cases h
theorem En{rm:Lac}{f:C->Option C}{t:Nat}{g:Gr}{mm:Bool}(h:qw rm f (.row t sz els g mm)=ς y):∃g',g.rl rm=ς g'/\mm=ζ/\y= .row t sz els g' true:=by
 cases mm
 .simp[qw] at h
 simp only[qw] at h
 split at h
 .rename_i g' h1;cases h;exact⟨g',h1,rfl,rfl⟩
 cases h
theorem KA{rm:Lac}{f:C->Option C}{t:Nat}{g:Gr}(h:qw rm f (.rown t sz els g)=ς y):∃g',g.rl rm=ς g'/\y= .rown t sz els g':=by
 simp only[qw] at h
 split at h
 .rename_i g' h1;cases h;exact⟨g',h1,rfl⟩
 cases h
theorem IG{rm:Lac}{f:C->Option C}{o:Nat}(h:qw rm f x=ς y)(hf:∀c c' u,f c=ς c'->cvC E w c u->cvC E' w c' u)(hr:∀b c,¬(E.n l/\((∃t sz els g,x= .rown t sz els g)\/∃j z,x= .abs j z))->E.r l=ς (b,c)->E'.r o=ς (b,c))(hn:E'.n o↔E.n l)(hH:∀(g:Bool) b,E.H g b->E'.H g b)(hT:∀l k,bQ rm l=ς k->∀b,E.T l b->E'.T k b)(hF:∀b c,¬(E.n l/\((∃t sz els g,x= .rown t sz els g)\/∃j z,x= .abs j z))->E.r l=ς (b,c)->¬E.F b->¬E'.F b)(hx:cg E w l x):cg E' w o y:=by
 have hHg:∀{g g':Gr},g.rl rm=ς g'->∀b,E.H g b->E'.H g' b:=by
  intro g g' h b hb
  cases g with
  |b g=>simp only[Gr.rl,Option.some.injEq] at h;subst h;exact hH g b hb
  |s l=>
   simp only[Gr.rl] at h;split at h
   .rename_i k h1;cases h;exact hT l k h1 b hb
   cases h
  |t l=>
   simp only[Gr.rl] at h;split at h
   .rename_i k h1;cases h;exact hT l k h1 b hb
   cases h
 have hG:∀{g g':Gr} {els:Lad} {b:Nat},g.rl rm=ς g'->qR E w els b g->qR E' w els b g':=by
  intro g g' els b h hb
  cases g with
  |b g=>simp only[Gr.rl,Option.some.injEq] at h;subst h;trivial
  |s l=>
   simp only[Gr.rl] at h;split at h
   .rename_i k h1;cases h;exact db.keep hb rfl (λ_ _=>rfl) (hT l k h1)
   cases h
  |t l=>
   simp only[Gr.rl] at h;split at h
   .rename_i k h1;cases h;exact db.keep hb rfl (λ_ _=>rfl) (hT l k h1)
   cases h
 cases x with
 |var t cs=>
  simp only[qw] at h
  split at h
  .rename_i h1;cases h
   obtain⟨b,c,arr,k1,k2,k3,k4⟩:=hx
   have hno:¬(E.n l/\((∃t' sz els g,Ob.var t cs= .rown t' sz els g)\/∃j z,Ob.var t cs= .abs j z)):=λ⟨_,h⟩=>by rcases h with⟨_,_,_,_,h⟩|⟨_,_,h⟩<;>cases h
   exact⟨b,c,arr,hr b c hno k1,k2,oc hf h1 k3,hF b c hno k1 k4⟩
  cases h
 |row t sz els g mm=>
  obtain⟨g',hg,rfl,rfl⟩:=En h
  obtain⟨b,c,arr,k1,k2,k3,k4,k5,k6,k7,k8,_,k9⟩:=hx
  have hno:¬(E.n l/\((∃t' sz' els' g',Ob.row t sz els g ζ= .rown t' sz' els' g')\/∃j z,Ob.row t sz els g ζ= .abs j z)):=λ⟨_,h⟩=>by rcases h with⟨_,_,_,_,h⟩|⟨_,_,h⟩<;>cases h
  exact⟨b,c,arr,hr b c hno k1,k2,k3,k4,k5,k6,bS (λ_ _=>rfl) (hHg hg) rfl _ _ k7,λ_=>hF b c hno k1 (k8 rfl),(λh=>by cases h),hG hg k9⟩
 |rown t sz els g=>
  obtain⟨g',hg,rfl⟩:=KA h
  rcases hx with⟨h1,h2⟩|⟨h1,b,c,arr,k1,k2,k3,k4,k5,k6,k7,k8,k9⟩
  .exact .inl ⟨hn.2 h1,h2⟩
  exact .inr ⟨λk=>h1 (hn.1 k),b,c,arr,hr b c (λk=>h1 k.1) k1,k2,k3,k4,k5,k6,bS (λ_ _=>rfl) (hHg hg) rfl _ _ k7,hF b c (λk=>h1 k.1) k1 k8,hG hg k9⟩
 |abs j z=>
  simp only[qw] at h
  split at h
  .rename_i k h0;cases h
   rcases hx with⟨h1,h2⟩|⟨h1,b,c,k1,k2,k3⟩
   .exact .inl ⟨hn.2 h1,h2⟩
   exact .inr ⟨λk=>h1 (hn.1 k),b,c,hr b c (λk=>h1 k.1) k1,z.st _ _ _ _ _ _ k2 (hT j k h0) rfl (λ_ _=>rfl),hF b c (λk=>h1 k.1) k1 k3⟩
  cases h
set_option maxHeartbeats 2000000 in
open Classical in
theorem RR{up:Bool}{d:Tmp}{ps:String}{af:Array Edge}{gd:Option (Nat×Bool)}{args:List Operand}{tys:Array TypeId}{ob:Laa}{ts ts':List T}{xs ys ys' nw nw':Laa}{m nl rm nr:Lac}{n':Nat}(hF:FnV P f xs ts' ys out nw)(ht:ni sl args=ς ts)(ha:og (GQ (inv rm) up ob (inv m)) ts=ς ts')(hx:uZ (inv rm) (inv m) ob m=ς xs)(hm:XT m nl nx n ys=ζ)(hrm:Yq rm nr nx n n'=ζ)(hs:lL (tT (inv rm) (inv m)) sl=ς sl')(hb:kr (tT (inv rm) (inv m)) (U7 (inv rm) (inv m)) ob=ς ob')(hy:sL (rm++nr) (m++nl) ys=ς ys')(hw:sL (rm++nr) (m++nl) nw=ς nw')(ho:sJ (xo (rm++nr) (m++nl)) out=ς out')(hsl:uF nx sl=ζ)(hol:oR nx ob=ζ)(hN:nlt d N=ζ):
 AWO P N ⟨ς d,.call ⟨.value (.func f),args.toArray,tys⟩,ty,ps,af,gd⟩ ⟨sl,ob,nx⟩ ⟨(d,out')::sl',nw'++(ys'++ob'),n'⟩:=by
 intro cx E a w hR
 have ok:=hR.ok
 obtain⟨t1,t2⟩:=nN ht
 simp only[XT,hV,Zq,ZC,ZD] at hm
 obtain⟨⟨⟨hk1,hk2⟩,hm1,hc⟩,hu,hm2⟩:=hm
 simp only[Yq,hV,Zq] at hrm
 obtain⟨⟨⟨hq1,hq2⟩,hq3⟩,hq4⟩:=hrm
 have rd1:=eP hq1
 have rd2:=eP hq2
 obtain⟨hnn',hru⟩:=LC hq4
 have rdm1:(rm.map (·.1)).Nodup:=by rw[aad] at rd1;exact(aaj.1 rd1).1
 have rdm2:(rm.map (·.2)).Nodup:=by rw[aad] at rd2;exact(aaj.1 rd2).1
 have rinv:∀{k o},bQ rm k=ς o->bQ (inv rm) o=ς k:=λh=>dX (by rw[me];exact rdm2) (gQ.2 (cp h))
 have rof:∀{k o},bQ (inv rm) o=ς k->bQ rm k=ς o:=λh=>dX rdm1 (gQ.1 (cp h))
 have rinv':∀{k o},bQ (rm++nr) k=ς o->bQ (inv (rm++nr)) o=ς k:=λh=>dX (by rw[me];exact rd2) (gQ.2 (cp h))
 have rof':∀{k o},bQ (inv (rm++nr)) o=ς k->bQ (rm++nr) k=ς o:=λh=>dX rd1 (gQ.1 (cp h))
 have rlk:∀{k o},bQ rm k=ς o->bQ (rm++nr) k=ς o:=λh=>dX rd1 (Zn.2 (.inl (cp h)))
 have rsplit:∀{k o},bQ (rm++nr) k=ς o->bQ rm k=ς o\/(k,o)∈nr:=λh=>(Zn.1 (cp h)).imp (dX rdm1) id
 have rrs:∀{k o},bQ rm k=ς o->k<210/\o<nx:=λh=>by have:=hq3 _ (cp h);exact⟨bO this.1,bO this.2⟩
 have rnone:∀{o},bQ (inv rm) o=ξ->o<nx->bQ (inv (rm++nr)) o=none:=by
  intro o h1 h2
  cases h:bQ (inv (rm++nr)) o with
  |none=>rfl
  |some k=>
   rcases rsplit (rof' h) with h3|h3
   .rw[rinv h3] at h1;cases h1
   have:=(hru _ _ h3).1;have:=(xT hc).1;omega
 have nd1:=eP hk1
 have nd2:=eP hk2
 obtain⟨hnn,hcu⟩:=xT hc
 have ndm1:(m.map (·.1)).Nodup:=by rw[aad] at nd1;exact(aaj.1 nd1).1
 have ndm2:(m.map (·.2)).Nodup:=by rw[aad] at nd2;exact(aaj.1 nd2).1
 have inv_of:∀{k o},bQ m k=ς o->bQ (inv m) o=ς k:=λh=>dX (by rw[me];exact ndm2) (gQ.2 (cp h))
 have of_inv:∀{k o},bQ (inv m) o=ς k->bQ m k=ς o:=λh=>dX ndm1 (gQ.1 (cp h))
 have inv_of':∀{k o},bQ (m++nl) k=ς o->bQ (inv (m++nl)) o=ς k:=λh=>dX (by rw[me];exact nd2) (gQ.2 (cp h))
 have of_inv':∀{k o},bQ (inv (m++nl)) o=ς k->bQ (m++nl) k=ς o:=λh=>dX nd1 (gQ.1 (cp h))
 have look_m:∀{k o},bQ m k=ς o->bQ (m++nl) k=ς o:=λh=>dX nd1 (Zn.2 (.inl (cp h)))
 have split:∀{k o},bQ (m++nl) k=ς o->bQ m k=ς o\/(k,o)∈nl:=λh=>(Zn.1 (cp h)).imp (dX ndm1) id
 have linj:∀a a' b,bQ m a=ς b->bQ m a'=ς b->a=a':=λa a' b h h'=>by grind
 have linj':∀a a' b,bQ (m++nl) a=ς b->bQ (m++nl) a'=ς b->a=a':=λa a' b h h'=>by grind
 have mrs:∀{k o},bQ m k=ς o->rsv k=ζ/\o<nx:=λh=>⟨(hm1 _ (cp h)).1,bO (hm1 _ (cp h)).2⟩
 have pick:∀{k o},bQ m k=ς o->∃x0 x,go ob o=ς x0/\qw (inv rm) (yG (inv rm) ob (inv m)) x0=ς x:=λh=>Cf hx (cp h)
 let nilL:Nat->Prop:=λo=>E.n o/\((∃t sz els g,go ob o=ς (.rown t sz els g))\/∃j z,go ob o=ς (.abs j z))
 let Ec:Env:={r:=λl=>match bQ m l with|some o=>if nilL o then ξ else E.r o|none=>ξ,F:=E.F,G:=E.G,T:=λl b=>∃o,bQ rm l=ς o/\E.T o b,n:=λl=>∃o,bQ m l=ς o/\E.n o}
 have hEc:∀l p,Ec.r l=ς p->∃o,bQ m l=ς o/\¬nilL o/\E.r o=ς p:=by
  intro l p h
  have h:(match bQ m l with|some o=>if nilL o then ξ else E.r o|none=>ξ)=ς p:=h
  split at h
  .rename_i o h1
   split at h
   .cases h
   rename_i h2;exact⟨o,h1,h2,h⟩
  cases h
 have hEc2:∀{l o p},bQ m l=ς o->¬nilL o->E.r o=ς p->Ec.r l=ς p:=by
  intro l o p h1 h2 h3
  show(match bQ m l with|some o=>if nilL o then ξ else E.r o|none=>ξ)=ς p
  rw[h1];simp only[h2,if_false];exact h3
 have hEn:∀{l o},bQ m l=ς o->(Ec.n l↔E.n o):=λh=>⟨λ⟨o',h1,h2⟩=>by grind,λh2=>⟨_,h,h2⟩⟩
 have nF:∀{l o b c},bQ m l=ς o->¬nilL o->E.r o=ς (b,c)->¬E.F b:=by
  intro l o b c h1 h2 h3
  obtain⟨x0,x,a1,a2⟩:=pick h1
  have hx0:=hR.obs o x0 a1
  cases x0 with
  |var t cs=>obtain⟨b',c',arr,k1,k2,k3,k4⟩:=hx0;grind
  |row t sz els g mm=>
   obtain⟨g',hg',rfl,_⟩:=En a2
   obtain⟨b',c',arr,k1,k2,k3,k4,k5,k6,k7,k8,_⟩:=hx0
   rw[h3] at k1;cases k1;exact k8 rfl
  |rown t sz els g=>
   rcases hx0 with⟨k0,_⟩|⟨_,b',c',arr,k1,k2,k3,k4,k5,k6,k7,k8,_⟩
   .exact absurd ⟨k0,.inl ⟨_,_,_,_,a1⟩⟩ h2
   rw[h3] at k1;cases k1;exact k8
  |abs j z=>
   rcases hx0 with⟨k0,_⟩|⟨_,b',c',k1,k2,k3⟩
   .exact absurd ⟨k0,.inr ⟨_,_,a1⟩⟩ h2
   rw[h3] at k1;cases k1;exact k3
 have hVI:VIn Ec w:=⟨ok.fb,ok.gf,λl b c h=>by
  obtain⟨o,h1,h2,h3⟩:=hEc l _ h
  exact⟨(ok.rb o b c h3).1,(mrs h1).1,nF h1 h2 h3⟩,λl l' b c c' h h'=>by
  obtain⟨o,h1,h2,h3⟩:=hEc l _ h
  obtain⟨o',h1',h2',h3'⟩:=hEc l' _ h'
  have:=ok.inj _ _ _ _ _ h3 h3'
  grind,λl b ⟨o,h1,h2⟩=>⟨(ok.sf.tb o b h2).1.1,(ok.sf.tb o b h2).2.1,λl' c h=>(hEc l' _ h).elim λo' h=>(ok.sf.tb o b h2).2.2.1 o' c h.2.2,(ok.sf.tb o b h2).2.2.2,(rrs h1).1⟩,λl l' b ⟨o,h1,h2⟩ ⟨o',h1',h2'⟩=>by
  have:=ok.sf.tt o o' b h2 h2';subst this
  have:=rinv h1;rw[rinv h1'] at this;exact(Option.some.inj this).symm,λk hk l ⟨o,_,h⟩=>ok.nt hk h,λ_ h=>h⟩
 have hTe:∀{l o b},bQ rm l=ς o->(Ec.T l b↔E.T o b):=λh=>⟨λ⟨o',h1,h2⟩=>by rw[h] at h1;cases h1;exact h2,λh2=>⟨_,h,h2⟩⟩
 have hgD:∀{g g':Gr} {x:D} {u:Value},g.rl (inv rm)=ς g'->gD E w g x u->gD Ec w g' x u:=by
  intro g g' x u h hc
  cases g with
  |b g=>simp only[Gr.rl,Option.some.injEq] at h;subst h;cases g<;>exact hc
  |s l=>
   simp only[Gr.rl] at h;split at h
   .rename_i k h1;cases h;exact bP (F:=E.T l) (F':=Ec.T k) (λ_ _=>rfl) (λb hb=>(hTe (rof h1)).2 hb) x u hc
   cases h
  |t l=>
   simp only[Gr.rl] at h;split at h
   .rename_i k h1;cases h;exact hc.keep (λ_ _=>rfl) (λb hb=>(hTe (rof h1)).2 hb)
   cases h
 have hcB:∀c c' u,yG (inv rm) ob (inv m) c=ς c'->cvC E w c u->cvC Ec w c' u:=by
  intro c c' u h hc
  cases c with
  |w l n=>
   simp only[yG,rlB] at h
   split at h
   .rename_i k _ _ _ _ _ h1 h2;cases h
    obtain⟨b,c,h3,h4⟩:=hc
    exact⟨b,c,hEc2 (of_inv h1) (λ⟨_,h⟩=>by rw[h2] at h;rcases h with⟨_,_,_,_,h⟩|⟨_,_,h⟩<;>cases h) h3,h4⟩
   cases h
  |wn l n=>
   simp only[yG,rlB] at h
   split at h
   .rename_i k _ _ _ _ h1 h2;cases h
    rcases hc with⟨h3,h4⟩|⟨h3,b,c,h4,h5⟩
    .exact .inl ⟨(hEn (of_inv h1)).2 h3,h4⟩
    exact .inr ⟨λh=>h3 ((hEn (of_inv h1)).1 h),b,c,hEc2 (of_inv h1) (λh=>h3 h.1) h4,h5⟩
   cases h
  |p l n=>
   simp only[yG,rlB] at h
   split at h
   .rename_i k _ _ h1 h2;cases h
    obtain⟨b,c,h3,h4⟩:=hc
    exact⟨b,c,hEc2 (of_inv h1) (λ⟨_,h⟩=>by rw[h2] at h;rcases h with⟨_,_,_,_,h⟩|⟨_,_,h⟩<;>cases h) h3,h4⟩
   cases h
  |d g x=>
   simp only[yG] at h
   split at h
   .rename_i g' h1;cases h;exact hgD h1 hc
   cases h
  |nil=>simp only[yG,rlB] at h;cases h;exact hc
  |any=>simp only[yG,rlB] at h;cases h;trivial
  |fn f=>simp only[yG,rlB] at h;cases h;exact hc
  |_=>simp only[yG,rlB] at h;cases h
 have hcA:∀c c' u,GQ (inv rm) up ob (inv m) c=ς c'->cvC E w c u->cvC Ec w c' u:=by
  intro c c' u h hc
  cases c with
  |d g x=>
   cases g with
   |b g=>simp only[GQ] at h;cases h;exact bP (F:=E.H g) (λ_ _=>rfl) (λb hb=>by cases g<;>cases up<;>first|exact hb|exact ok.gf b hb) x u hc
   |s l=>simp only[GQ] at h;exact hcB _ _ _ h hc
   |t l=>simp only[GQ] at h;exact hcB _ _ _ h hc
  |nil=>simp only[GQ] at h;cases h;exact⟨ξ,0,hc,Zu _,.inl rfl⟩
  |_=>simp only[GQ] at h;exact hcB _ _ _ h hc
 have hX:∀l x,go xs l=ς x->cg Ec w l x:=by
  intro l x h
  obtain⟨o,x0,a1,a2,a3⟩:=Ea hx h
  exact IG a3 hcB (λb c h1 h2=>hEc2 a1 (λ⟨k1,k2⟩=>h1 ⟨k1,k2.imp (λ⟨t,sz,els,g,k⟩=>⟨t,sz,els,g,by rw[a2] at k;exact Option.some.inj k⟩) (λ⟨j,z,k⟩=>⟨j,z,by rw[a2] at k;exact Option.some.inj k⟩)⟩) h2) (hEn a1) (λg b h=>by cases g<;>exact h) (λl k h b hb=>(hTe (rof h)).2 hb) (λb c h1 h2 h3=>h3) (hR.obs o x0 a2)
 have hA:=yo (a:=a) hcA ha t1 (λx t hm=>by have:=hR.op x;rwa [Lk.mem t2 x t hm] at this)
 have hc:=hF.calls Ec w (args.map a.eval).toArray hVI ok.tabs (λk hk l c h=>by
  obtain⟨o,_,_,h3⟩:=hEc l _ h;exact ok.ntab h3 k hk rfl) hX oaa
 have hent:=hF.enters (args.map a.eval).toArray w
 unfold Oper.wp
 have hrun:(execOp a.eval ⟨ς d,.call ⟨.value (.func f),args.toArray,tys⟩,ty,ps,af,gd⟩).run P w= .ok (.enter f (args.map a.eval).toArray) w:=by
  simp only[execOp,resolve,Act.eval,Deferred.ofValue,Sem.run_bind,Sem.run_pure,Result.andThen_ok,invoke]
  simpa using hent
 rw[hrun,Oper.upon_enter]
 refine hc.mono ?_
 rintro e w' ⟨v,E',rfl,vo,hv,hY,hNW⟩
 have hsz:=vo.past.size
 have tP:∀{b},(∃l,Ec.T l b)->∃k l,bQ rm k=ς l/\E.T l b:=λ⟨k,l,h1,h2⟩=>⟨k,l,h1,h2⟩
 let E2:Env:={r:=λl=>match bQ (inv (m++nl)) l with|some k=>E'.r k|none=>E.r l,F:=E'.F,G:=E'.G,T:=λl b=>match bQ (inv (rm++nr)) l with|some k=>E'.T k b|none=>E.T l b,Z:=E.Z,n:=λl=>match bQ (inv (m++nl)) l with|some k=>E'.n k|none=>E.n l}
 have e2r:∀{k o},bQ (m++nl) k=ς o->E2.r o=E'.r k:=λh=>by grind
 have e2n:∀{k o},bQ (m++nl) k=ς o->(E2.n o↔E'.n k):=λh=>by grind
 have e2r0:∀{o},bQ (inv (m++nl)) o=ξ->E2.r o=E.r o:=λh=>by grind
 have e2n0:∀{o},bQ (inv (m++nl)) o=ξ->(E2.n o↔E.n o):=λh=>by grind
 have e2t:∀{k o},bQ (rm++nr) k=ς o->E2.T o=E'.T k:=λ{k o} h=>funext λb=>by
  show(match bQ (inv (rm++nr)) o with|some k=>E'.T k b|none=>E.T o b)=_
  rw[rinv' h]
 have e2t0:∀{o},bQ (inv (rm++nr)) o=ξ->E2.T o=E.T o:=λ{o} h=>funext λb=>by
  show(match bQ (inv (rm++nr)) o with|some k=>E'.T k b|none=>E.T o b)=_
  rw[h]
 have e2tc:∀l b,E2.T l b->(∃k,bQ (rm++nr) k=ς l/\E'.T k b)\/(bQ (inv (rm++nr)) l=ξ/\E.T l b):=by
  intro l b h
  cases h1:bQ (inv (rm++nr)) l with
  |some k=>exact .inl ⟨k,rof' h1,by rw[e2t (rof' h1)] at h;exact h⟩
  |none=>rw[e2t0 h1] at h;exact .inr ⟨rfl,h⟩
 have oldT:∀{k b},E'.T k b->w.heap.size<=b\/∃k' l,bQ rm k'=ς l/\E.T l b:=λh=>((vo.T _ _ h).1.2).imp id tP
 have e2c:∀l b c,E2.r l=ς (b,c)->(∃k,bQ (m++nl) k=ς l/\E'.r k=ς (b,c))\/(bQ (inv (m++nl)) l=ξ/\E.r l=ς (b,c)):=by
  intro l b c h
  cases h1:bQ (inv (m++nl)) l with
  |some k=>exact .inl ⟨k,of_inv' h1,by grind⟩
  |none=>grind
 have oldB:∀{k b c},E'.r k=ς (b,c)->(w.heap.size<=b\/∃k l,bQ rm k=ς l/\E.T l b)\/∃l o c',bQ m l=ς o/\¬nilL o/\E.r o=ς (b,c')/\rsv k=true:=by
  intro k b c h
  rcases(vo.rb k b c h).2 with(h|h)|⟨⟨l,c',h⟩,h2⟩
  .exact .inl (.inl h)
  .exact .inl (.inr (tP h))
  obtain⟨o,h3,h4,h5⟩:=hEc l _ h;grind
 have none_of:∀{o},(∀k,bQ m k≠ς o)->o<nx->bQ (inv (m++nl)) o=none:=by
  intro o h1 h2
  cases h:bQ (inv (m++nl)) o with
  |none=>rfl
  |some k=>
   rcases split (of_inv' h) with h3|h3
   .grind
   grind
 have hnot:∀{o},bQ (inv (m++nl)) o=ξ->∀k,bQ m k≠ς o:=λh k h1=>by grind
 have hheap:∀k,k<w.heap.size->(∀l o c,bQ m l=ς o->¬nilL o->E.r o≠ς (k,c))->(∀j l,bQ rm j=ς l->¬E.T l k)->w'.heap[k]?=w.heap[k]?:=λk hk h hq=>vo.past.block k hk (λh1=>by
  rcases h1 with⟨l,c,h1⟩|⟨l,o,h1,h2⟩
  .obtain⟨o,h2,h3,h4⟩:=hEc l _ h1;exact h _ _ _ h2 h3 h4
  exact hq _ _ h1 h2)
 have hFh:∀b,E.F b->w'.heap[b]?=w.heap[b]?:=λb hb=>hheap b (ok.fb b hb) (λl o c h1 h2 h3=>nF h1 h2 h3 hb) (λ_ l _ h=>(ok.sf.tb l b h).2.1 hb)
 have hHh:∀(g:Bool) b,E.H g b->w'.heap[b]?=w.heap[b]?:=λg b hb=>hFh b (by cases g;exact hb;exact ok.gf b hb)
 have hTh:∀l b,bQ (inv rm) l=ξ->E.T l b->w'.heap[b]?=w.heap[b]?:=λl b hl hb=>hheap b (ok.sf.tb l b hb).1.1 (λ_ o c _ _ h=>(ok.sf.tb l b hb).2.2.1 o c h) (λk l' h1 h2=>by
  have:=ok.sf.tt _ _ _ hb h2;subst this;rw[rinv h1] at hl;cases hl)
 have hZh:∀b,cx.Z b->w'.heap[b]?=w.heap[b]?:=λb hb=>hheap b (ok.sf.zc b hb).1.2.1 (λ_ o c _ _ h=>(ok.sf.zc b hb).2.2.1 o c h) (λ_ l _ h=>ok.sf.tz h hb)
 have okE:cF cx E2 w':=by
  refine⟨vo.fb,vo.gf,λb h=>?_,λl b c h=>?_,λl l' b c c' h h'=>?_,by rw[vo.past.os];exact ok.os,by rw[vo.past.tape];exact ok.tape,by rw[vo.past.output];exact ok.output,Zz ok.size hsz,λb h hW=>?_,λl x hv h=>?_,λb h=>?_,λb h h'=>?_,⟨λl b h=>?_,λl l' b h h'=>?_,λb h=>?_,λb h=>?_,ok.sf.ze⟩⟩
  .rcases vo.g0 b h with h|h|h
   .exact .inl (Zz ok.size h)
   .exact ok.gn b h
   obtain⟨_,l,_,h⟩:=tP h;exact(ok.sf.tb l b h).1.2.ng
  .rcases e2c l b c h with⟨k,h1,h2⟩|⟨h1,h2⟩
   .refine⟨(vo.rb k b c h2).1,?_⟩
    rcases oldB h2 with(h3|⟨_,l',_,h3⟩)|⟨l',o',c',h3,h4,h5,h6⟩
    .exact .inl (.inl (Zz ok.size h3))
    .exact .inl (ok.sf.tb l' b h3).1.2
    rcases split h1 with h7|h7
    .rcases(ok.rb o' b c' h5).2 with h8|⟨h8,h9⟩
     .exact .inl h8
     refine .inr ⟨h8,?_⟩
     cases hp:rsp k with
     |true=>
      have h10:=vo.pin k _ hp h2
      obtain⟨o2,h11,_,h13⟩:=hEc k _ h10
      rw[h7] at h11;cases h11
      have:=ok.inj _ _ _ _ _ h13 h5
      grind
     |false=>
      rcases hu with hu|hu
      .rcases hu _ (cp h7) with h10|h10
       .grind
       exact h10
      rcases hu _ (cp h3) with h10|h10
      .have h11:rsp l'=true:=h10
       have h12:=inv_of h3
       exfalso
       have hy2:(go ys l').isSome=true:=(hm2 _ (cp h3)).2.2
       have hv2:DX ys l'=true:=((hm2 _ (cp h3)).2.1).resolve_left (by simp[h11])
       obtain⟨⟨b1,c1⟩,q1⟩:=BP hv2 hY
       have q2:=vo.pin l' _ h11 q1
       obtain⟨o2,q3,_,q4⟩:=hEc l' _ q2
       rw[h3] at q3;cases q3
       rw[h5] at q4;cases q4
       have:=vo.inj _ _ _ _ _ q1 h2
       grind
      grind
    grind
   have:=ok.rb l b c h2;grind
  .rcases e2c l b c h with⟨k,h1,h2⟩|⟨h1,h2⟩<;>rcases e2c l' b c' h' with⟨k',h1',h2'⟩|⟨h1',h2'⟩
   .have:=vo.inj _ _ _ _ _ h2 h2'
    grind
   .exfalso
    rcases oldB h2 with(h3|⟨_,l3,_,h3⟩)|⟨l2,o2,c2,h3,h4,h5,_⟩
    .have:=(ok.rb _ _ _ h2').1;omega
    .exact(ok.sf.tb l3 b h3).2.2.1 _ _ h2'
    have:=ok.inj _ _ _ _ _ h5 h2'
    subst this
    exact hnot h1' _ h3
   .exfalso
    rcases oldB h2' with(h3|⟨_,l3,_,h3⟩)|⟨l2,o2,c2,h3,h4,h5,_⟩
    .have:=(ok.rb _ _ _ h2).1;omega
    .exact(ok.sf.tb l3 b h3).2.2.1 _ _ h2
    have:=ok.inj _ _ _ _ _ h5 h2
    subst this
    exact hnot h1 _ h3
   exact ok.inj _ _ _ _ _ h2 h2'
  .rw[hheap b (Zy h ok.size) (λl o c h1 h2 h3=>by
    exact(ok.rw h3).elim (λ_=>by omega) hW) (λk l h1 h2=>(ok.sf.tb l b h2).1.2.nw.elim (λ_=>by omega) hW)]
   exact ok.block b h hW
  .obtain⟨b,c⟩:=x
   rcases e2c l b c h with⟨k,h1,h2⟩|⟨_,h2⟩
   .rcases split h1 with h7|h7
    .have hk:rsp k=true:=((hm2 _ (cp h7)).1).resolve_left (by simp[hv])
     obtain⟨o2,q3,_,q4⟩:=hEc k _ (vo.pin k _ hk h2)
     rw[h7] at q3;cases q3
     exact ok.pin l _ hv q4
    have:=(hcu _ _ h7).2.2.1
    have h9:=AX hv
    grind
   exact ok.pin l _ hv h2
  .rcases vo.f0 b h with h|⟨h|h,_⟩
   .exact ok.ff b h
   .exact .inr (Zz ok.size h)
   obtain⟨_,l,_,h⟩:=tP h;exact(ok.sf.tb l b h).1.2.nf
  .rcases vo.f0 b h with h|h
   .exact(ok.gc b h h').of_eq (hFh b h)
   exact h.2
  .rcases e2tc l b h with⟨k,h1,h2⟩|⟨h1,h2⟩
   .obtain⟨⟨k1,k2⟩,k3,k4,k5⟩:=vo.T k b h2
    refine⟨⟨k1,(oldT h2).elim (λh=>.inl (Zz ok.size h)) (λ⟨_,l',_,h⟩=>(ok.sf.tb l' b h).1.2)⟩,k3,λo c ho=>?_,k5⟩
    rcases e2c o b c ho with⟨k',_,q2⟩|⟨_,q2⟩
    .exact k4 _ _ q2
    rcases oldT h2 with q|⟨_,l',_,q⟩
    .have:=(ok.rb _ _ _ q2).1;omega
    exact(ok.sf.tb l' b q).2.2.1 _ _ q2
   obtain⟨k1,k2,k3,k4⟩:=ok.sf.tb l b h2
   have hl0:bQ (inv rm) l=none:=by
    cases hh:bQ (inv rm) l with
    |none=>rfl
    |some k=>rw[rinv' (rlk (rof hh))] at h1;cases h1
   refine⟨⟨by omega,k1.2⟩,λhf=>?_,λo c ho=>?_,k4.of_eq (hTh l b hl0 h2)⟩
   .rcases vo.f0 b hf with hf|⟨hf|hf,_⟩
    .exact k2 hf
    .omega
    obtain⟨k,l',q1,q2⟩:=tP hf
    have:=ok.sf.tt _ _ _ h2 q2;subst this;rw[rinv q1] at hl0;cases hl0
   rcases e2c o b c ho with⟨k,_,q2⟩|⟨_,q2⟩
   .rcases oldB q2 with(h3|⟨k',l',q3,h3⟩)|⟨l2,o2,c2,h3,h4,h5,_⟩
    .omega
    .have:=ok.sf.tt _ _ _ h2 h3;subst this;rw[rinv q3] at hl0;cases hl0
    exact k3 _ _ h5
   exact k3 _ _ q2
  .rcases e2tc l b h with⟨k,h1,h2⟩|⟨h1,h2⟩<;>rcases e2tc l' b h' with⟨k',h1',h2'⟩|⟨h1',h2'⟩
   .have:=vo.tt _ _ _ h2 h2';subst this;rw[h1] at h1';exact Option.some.inj h1'
   .exfalso
    rcases oldT h2 with q|⟨j,l2,q1,q⟩
    .have:=(ok.sf.tb _ _ h2').1.1;omega
    have:=ok.sf.tt _ _ _ h2' q;subst this;rw[rinv' (rlk q1)] at h1';cases h1'
   .exfalso
    rcases oldT h2' with q|⟨j,l2,q1,q⟩
    .have:=(ok.sf.tb _ _ h2).1.1;omega
    have:=ok.sf.tt _ _ _ h2 q;subst this;rw[rinv' (rlk q1)] at h1;cases h1
   exact ok.sf.tt _ _ _ h2 h2'
  .obtain⟨k1,k2,k3,k4⟩:=ok.sf.zc b h
   refine⟨⟨k1.1,by omega,k1.2.2⟩,λhf=>?_,λo c ho=>?_,k4.of_eq (hZh b h)⟩
   .rcases vo.f0 b hf with hf|⟨hf|hf,_⟩
    .exact k2 hf
    .omega
    obtain⟨_,l,_,hf⟩:=tP hf;exact ok.sf.tz hf h
   rcases e2c o b c ho with⟨k,_,h2⟩|⟨_,h2⟩
   .rcases oldB h2 with(h3|⟨_,l,_,h3⟩)|⟨l2,o2,c2,h3,h4,h5,_⟩
    .omega
    .exact ok.sf.tz h3 h
    exact k3 _ _ h5
   exact k3 _ _ h2
  exact(ok.sf.zs b h).trans (.of_eq (hZh b h))
 have hHm:∀(g:Bool) b,E.H g b->E2.H g b:=λg b h=>by cases g;exact vo.F b h;exact vo.G b h
 have hT2:∀l b,bQ (inv rm) l=ξ->l<nx->E.T l b->E2.T l b:=λl b h0 h1 h=>by rw[e2t0 (rnone h0 h1)];exact h
 have hHh':∀(g:Gr) b,g.okR (inv rm)=ζ->E.H g b->w'.heap[b]?=w.heap[b]?:=λg b hg h=>by
  cases g with
  |b g=>exact hHh g b h
  |s n=>exact hTh n b (oS hg) h
  |t n=>exact hTh n b (oS hg) h
 have hHm':∀(g:Gr) b,g.okR (inv rm)=ζ->g.lt nx->E.H g b->E2.H g b:=λg b hg hl h=>by
  cases g with
  |b g=>exact hHm g b h
  |s n=>exact hT2 n b (oS hg) hl h
  |t n=>exact hT2 n b (oS hg) hl h
 have hgk:∀{g:Gr} {x:D} {u:Value},g.okR (inv rm)=ζ->g.lt nx->gD E w g x u->gD E2 w' g x u:=λ{g x u} hg hl h=>by
  cases g with
  |b g=>exact bP (λb hb=>hHh' (.b g) b rfl hb) (λb hb=>hHm' (.b g) b rfl trivial hb) x u h
  |s n=>exact bP (F:=E.T n) (λb hb=>hTh n b (oS hg) hb) (λb hb=>hT2 n b (oS hg) hl hb) x u h
  |t n=>exact h.keep (λb hb=>hTh n b (oS hg) hb) (λb hb=>hT2 n b (oS hg) hl hb)
 have hrg:∀{g:Gr} {els:Lad} {b:Nat},g.okR (inv rm)=ζ->g.lt nx->w'.heap[b]?=w.heap[b]?->qR E w els b g->qR E2 w' els b g:=λ{g els b} hg hl hb h=>by
  cases g with
  |b g=>trivial
  |s n=>exact db.keep h hb (λb hb=>hTh n b (oS hg) hb) (λb hb=>hT2 n b (oS hg) hl hb)
  |t n=>exact db.keep h hb (λb hb=>hTh n b (oS hg) hb) (λb hb=>hT2 n b (oS hg) hl hb)
 have hkv:∀c c' u,c.lt nx=ζ->tT (inv rm) (inv m) c=ς c'->cvC E w c u->cvC E2 w' c' u:=by
  intro c c' u hl h hc
  have hnone:∀{l},bQ (inv m) l=ξ->l<nx->bQ (inv (m++nl)) l=none:=λh1 h2=>none_of (λk h3=>by grind) h2
  cases c with
  |d g x=>
   simp only[tT] at h
   split at h
   .rename_i hg;cases h;exact hgk hg (XR hl) hc
   cases h;trivial
  |w l n=>
   simp only[tT] at h
   split at h
   .rename_i k h1
    split at h
    .rename_i hp
     cases h
     obtain⟨b,c,h3,h4⟩:=hc
     have h5:=of_inv h1
     have hv2:DX ys k=true:=((hm2 _ (cp h5)).2.1).resolve_left (by simp[hp])
     obtain⟨⟨b1,c1⟩,q1⟩:=BP hv2 hY
     obtain⟨o2,q3,_,q4⟩:=hEc k _ (vo.pin k _ hp q1)
     rw[h5] at q3;cases q3
     rw[h3] at q4;cases q4
     exact⟨b,c,by rw[e2r (look_m h5)];exact q1,h4⟩
    cases h;trivial
   rename_i h1;cases h
   obtain⟨b,c,h3,h4⟩:=hc
   exact⟨b,c,by rw[e2r0 (hnone h1 (bO hl))];exact h3,h4⟩
  |wn l n=>
   simp only[tT,kvC] at h
   split at h
   .cases h;trivial
   rename_i h1;cases h
   have h2:=hnone h1 (bO hl)
   rcases hc with⟨h3,h4⟩|⟨h3,b,c,h4,h5⟩
   .exact .inl ⟨(e2n0 h2).2 h3,h4⟩
   exact .inr ⟨λh=>h3 ((e2n0 h2).1 h),b,c,by grind,h5⟩
  |s l a1 a2 a3=>
   simp only[tT,kvC] at h
   split at h
   .cases h;trivial
   rename_i h1;cases h
   obtain⟨A,c,b,k,h3,h4⟩:=hc
   exact⟨A,c,b,k,by rw[e2r0 (hnone h1 (bO hl))];exact h3,h4⟩
  |e l a1 a2 a3=>
   simp only[tT,kvC] at h
   split at h
   .cases h;trivial
   rename_i h1;cases h
   obtain⟨b,c,h3,h4⟩:=hc
   exact⟨b,c,by rw[e2r0 (hnone h1 (bO hl))];exact h3,h4⟩
  |p l j=>
   simp only[tT,kvC] at h
   split at h
   .rename_i k h1
    split at h
    .rename_i hp
     cases h
     obtain⟨b,c,h3,h4⟩:=hc
     have h5:=of_inv h1
     have hv2:DX ys k=true:=((hm2 _ (cp h5)).2.1).resolve_left (by simp[hp])
     obtain⟨⟨b1,c1⟩,q1⟩:=BP hv2 hY
     obtain⟨o2,q3,_,q4⟩:=hEc k _ (vo.pin k _ hp q1)
     rw[h5] at q3;cases q3
     rw[h3] at q4;cases q4
     exact⟨b,c,by rw[e2r (look_m h5)];exact q1,h4⟩
    cases h;trivial
   rename_i h1;cases h
   obtain⟨b,c,h3,h4⟩:=hc
   exact⟨b,c,by rw[e2r0 (hnone h1 (bO hl))];exact h3,h4⟩
  |q g y j=>
   simp only[tT] at h
   split at h
   .rename_i hg;cases h
    obtain⟨b,k,h1,h2,h3⟩:=hc
    have hl:=Vb hl
    exact⟨b,k,h1,hHm' g b hg hl h2,rdL_mono (λb=>hHh' g b hg) (λb=>hHm' g b hg hl) y b k h2 h3⟩
   cases h;trivial
  |fn f=>simp only[tT,kvC] at h;cases h;exact hc
  |nil=>simp only[tT,kvC] at h;cases h;exact hc
  |any=>simp only[tT,kvC] at h;cases h;trivial
  |r l x=>
   simp only[tT] at h
   split at h
   .rename_i hg;cases h;exact bP (F:=E.T l) (λb hb=>hTh l b (oS (g:=.s l) hg) hb) (λb hb=>hT2 l b (oS (g:=.s l) hg) (bO hl) hb) x u hc
   cases h;trivial
  |z x=>simp only[tT,kvC] at h;cases h;exact qy (λb hb=>.of_eq (hZh b (ok.sf.ze b hb))) (λb hb=>hb) x u hc
  |zq x j=>
   simp only[tT,kvC] at h;cases h
   obtain⟨b,k,h1,h2,h3⟩:=hc
   exact⟨b,k,h1,h2,rsL_mono (λb hb=>.of_eq (hZh b (ok.sf.ze b hb))) (λb hb=>hb) x b k h2 h3⟩
 have hrl:∀c c' u,xo (rm++nr) (m++nl) c=ς c'->cvC E' w' c u->cvC E2 w' c' u:=by
  intro c c' u h hc
  cases c with
  |w l n=>
   simp only[xo,rlC] at h
   split at h
   .rename_i k h1;cases h
    obtain⟨b,c,h3,h4⟩:=hc
    exact⟨b,c,by grind,h4⟩
   cases h
  |wn l n=>
   simp only[xo,rlC] at h
   split at h
   .rename_i k h1;cases h
    rcases hc with⟨h3,h4⟩|⟨h3,b,c,h4,h5⟩
    .exact .inl ⟨(e2n h1).2 h3,h4⟩
    exact .inr ⟨λh=>h3 ((e2n h1).1 h),b,c,by grind,h5⟩
   cases h
  |p l n=>
   simp only[xo,rlC] at h
   split at h
   .rename_i k h1;cases h
    obtain⟨b,c,h3,h4⟩:=hc
    exact⟨b,c,by grind,h4⟩
   cases h
  |s l x y z=>
   simp only[xo,rlC] at h
   split at h
   .rename_i k h1;cases h
    obtain⟨A,q,b,c,h3,h4⟩:=hc
    exact⟨A,q,b,c,by grind,h4⟩
   cases h
  |d g x=>
   simp only[xo] at h
   split at h
   .rename_i g' h1;cases h
    cases g with
    |b g=>simp only[Gr.rl,Option.some.injEq] at h1;subst h1;cases g<;>exact hc
    |s l=>
     simp only[Gr.rl] at h1;split at h1
     .rename_i k h2;cases h1;exact bP (F:=E'.T l) (F':=E2.T k) (λ_ _=>rfl) (λb hb=>by rw[e2t h2];exact hb) x u hc
     cases h1
    |t l=>
     simp only[Gr.rl] at h1;split at h1
     .rename_i k h2;cases h1;exact eT.keep (x:=x) hc (λ_ _=>rfl) (λb hb=>by rw[e2t h2];exact hb)
     cases h1
   cases h
  |nil=>simp only[xo,rlC] at h;cases h;exact hc
  |any=>simp only[xo,rlC] at h;cases h;trivial
  |fn f=>simp only[xo,rlC] at h;cases h;exact hc
  |_=>simp only[xo,rlC] at h;cases h
 have hrel:∀{k o:Nat} {y y':Ob},bQ (m++nl) k=ς o->qw (rm++nr) (xo (rm++nr) (m++nl)) y=ς y'->cg E' w' k y->cg E2 w' o y':=λh1 h2 h3=>
  IG h2 hrl (λb c _ h=>by rw[e2r h1];exact h) (e2n h1) (λg b h=>by cases g<;>exact h) (λl k h b hb=>by rw[e2t h];exact hb) (λb c _ _ h=>h) h3
 refine⟨E2,okE,λl x h=>?_,λl y hl=>?_,λk=>?_,hR.dfr,by simpa [Act.put] using hR.size,λl b h=>?_⟩
 .obtain⟨b,c⟩:=x
  rcases e2c l b c h with⟨k,h1,_⟩|⟨_,h2⟩
  .rcases split h1 with h3|h3
   .exact Zy (mrs h3).2 (Zz hnn hnn')
   grind
  exact Zy (hR.dom l _ h2) (Zz hnn hnn')
 .rcases Fo hl with h|⟨_,h⟩
  .obtain⟨k,y0,h1,h2,h3⟩:=zW linj' hw h
   exact hrel h1 h3 (hNW _ _ h2)
  rcases Fo h with h|⟨h0,h⟩
  .obtain⟨k,y0,h1,h2,h3⟩:=zW linj' hy h
   exact hrel h1 h3 (hY _ _ h2)
  .
    have hnm:∀k,bQ m k≠ς l:=λk h1=>by
     have h2:=(hm2 _ (cp h1)).2.2
     cases h3:go ys k with
     |none=>grind
     |some y0=>
      obtain⟨o,h4,h5⟩:=Ah hy h3
      grind
    have hno:∀b c,E.r l=ς (b,c)->w'.heap[b]?=w.heap[b]?:=λb c hr=>hheap b (ok.rb l b c hr).1 (λl' o' c' h1 _ h3=>by
     have:=ok.inj _ _ _ _ _ hr h3
     subst this
     exact hnm _ h1) (λ_ l2 _ h=>(ok.sf.tb l2 b h).2.2.1 _ _ hr)
    have hFn:∀b c,E.r l=ς (b,c)->¬E.F b->¬E2.F b:=λb c hr hn hf=>(vo.f0 b hf).elim hn (λh=>h.1.elim (λh=>by have:=(ok.rb l b c hr).1;omega) (λh=>(tP h).elim λ_ ⟨l2,_,h⟩=>(ok.sf.tb l2 b h).2.2.1 _ _ hr))
    rcases pf hb h with⟨t,cs,cs',g1,g2,rfl⟩|⟨x0,g1,g2,g3⟩
    .obtain⟨hln,hxl⟩:=qo hol g1
     have e1:=e2r0 (none_of hnm hln)
     obtain⟨b,c,arr,k1,k2,k3,k4⟩:=hR.obs l _ g1
     refine⟨b,c,arr,by grind,(hno b c k1).trans k2,?_,hFn b c k1 k4⟩
     have key:∀(cs cs':List C) (us:Lae),cs.all (C.lt nx)=ζ->jG (tT (inv rm) (inv m)) cs=ς cs'->CV E w cs us->CV E2 w' cs' us:=by
      intro cs
      induction cs with
      |nil=>intro cs' us _ h hc;simp[jG] at h;subst h;cases us with
       |nil=>trivial
       |cons _ _=>exact hc.elim
      |cons c cs ih=>
       intro cs' us hl h hc
       simp only[List.all_cons,hV] at hl
       cases us with
       |nil=>exact hc.elim
       |cons u us=>
        simp only[jG] at h
        split at h
        .rename_i h1 h2;simp at h;subst h;exact⟨hkv _ _ _ hl.1 h1 hc.1,ih _ _ hl.2 h2 hc.2⟩
        cases h
     exact key _ _ _ hxl g2 k3
    have hil:bQ (inv m) l=none:=by
     cases hh:bQ (inv m) l with
     |none=>rfl
     |some k=>exact absurd (of_inv hh) (hnm k)
    obtain⟨rfl,hokr⟩:=U8 hil g3
    obtain⟨hln,hxl⟩:=qo hol g1
    have e1:=e2r0 (none_of hnm hln)
    have e3:=e2n0 (none_of hnm hln)
    have hx0:=hR.obs l _ g1
    cases y with
    |var t cs=>exact absurd rfl (g2 t cs)
    |row t sz els g mm=>
     obtain⟨b,c,arr,k1,k2,k3,k4,k5,k6,k7,k8,k9⟩:=hx0
     exact⟨b,c,arr,by grind,(hno b c k1).trans k2,k3,k4,k5,k6,bS (λb=>hHh' g b hokr) (λb=>hHm' g b hokr (Mk hxl)) (hno b c k1) _ _ k7,λhm=>hFn b c k1 (k8 hm),λhm=>⟨hHm η b (k9.1 hm).1,λhg=>hHm ζ b ((k9.1 hm).2 hg)⟩,hrg hokr (Mk hxl) (hno b c k1) k9.2⟩
    |rown t sz els g=>
     rcases hx0 with⟨k1,k2⟩|⟨k0,b,c,arr,k1,k2,k3,k4,k5,k6,k7,k8⟩
     .exact .inl ⟨e3.2 k1,k2⟩
     exact .inr ⟨λh=>k0 (e3.1 h),b,c,arr,by grind,(hno b c k1).trans k2,k3,k4,k5,k6,bS (λb=>hHh' g b hokr) (λb=>hHm' g b hokr (H2 hxl)) (hno b c k1) _ _ k7,hFn b c k1 k8.1,hrg hokr (H2 hxl) (hno b c k1) k8.2⟩
    |abs j z=>
     rcases hx0 with⟨k1,k2⟩|⟨k0,b,c,k1,k2,k3⟩
     .exact .inl ⟨e3.2 k1,k2⟩
     exact .inr ⟨λh=>k0 (e3.1 h),b,c,by grind,z.st _ _ _ _ _ _ k2 (λk hk=>hT2 j k (oS (g:=.s j) hokr) (bO hxl) hk) (hno b c k1) (λk hk=>hTh j k (oS (g:=.s j) hokr) hk),hFn b c k1 k3⟩
 .rw[eK (by rw[hR.size];exact bO hN)]
  by_cases hdk:d=k
  .subst hdk;rw[cG,if_pos rfl];exact vS hrl ho hv
  rw[b7 _ _ hdk,if_neg hdk]
  rw[<-FF hsl] at hs
  refine tU (λc c' u h hc=>?_) hs (hR.sl k)
  unfold ltF at h
  cases hl:c.lt nx with
  |true=>grind
  |false=>rw[hl] at h;cases h;trivial
 rcases e2tc l b h with⟨k,h1,h2⟩|⟨h1,h2⟩
 .rcases rsplit h1 with h3|h3
  .exact Zy (rrs h3).2 (Zz hnn hnn')
  exact(hru _ _ h3).2
 exact Zy (hR.td l b h2) (Zz hnn hnn')
theorem cvt{d:Tmp}{ps:String}{af:Array Edge}{gd:Option (Nat×Bool)}{args:List Operand}{tys:Array TypeId}{ob ob1 ob2:Laa}{ts ts':List T}{xs ys ys' nw nw':Laa}(up:Bool)(m nl rm nr:Lac)(n n':Nat)(hF:FnV P f xs ts' ys out nw)(ht:ni sl args=ς ts:=by exact rfl)(ha:og (GQ (inv rm) up ob (inv m)) ts=ς ts':=by exact rfl)(hx:uZ (inv rm) (inv m) ob m=ς xs:=by exact rfl)(hm:XT m nl nx n ys=true:=by exact rfl)(hrm:Yq rm nr nx n n'=true:=by exact rfl)(hs:lL (tT (inv rm) (inv m)) sl=ς sl':=by exact rfl)(hb:kr (tT (inv rm) (inv m)) (U7 (inv rm) (inv m)) ob=ς ob':=by exact rfl)(hy:sL (rm++nr) (m++nl) ys=ς ys':=by exact rfl)(hw:sL (rm++nr) (m++nl) nw=ς nw':=by exact rfl)(ho:sJ (xo (rm++nr) (m++nl)) out=ς out':=by exact rfl)(hsl:uF nx sl=true:=by exact rfl)(hol:oR nx ob=true:=by exact rfl)(hN:nlt d N=true:=by exact rfl)(h1:apO ys' ob'=ς ob1:=by exact rfl)(h2:apO nw' ob1=ς ob2:=by exact rfl):
 AWO P N ⟨ς d,.call ⟨.value (.func f),args.toArray,tys⟩,ty,ps,af,gd⟩ ⟨sl,ob,nx⟩ ⟨(d,out')::sl',ob2,n'⟩:=by
 rw[mY h2,mY h1]
 exact RR hF ht ha hx hm hrm hs hb hy hw ho hsl hol hN
end Go.AM
