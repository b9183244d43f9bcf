/- A part. -/
import Derived.Test.YtmginjngmidkbaaGreatE2
import Derived.Laws.IdiomStrings
import Derived.JoinedOf
set_option linter.unusedVariables false
set_option linter.unusedSimpArgs false
open Nat renaming eq_of_beq_eq_true->aae,beq->d0,min_eq_left->aaG,le_refl->aai,lt_or_ge->aaq,zero_add->aak,zero_le->aat,lt_of_lt_of_le->aau,le_of_ble_eq_true->aaP,ble->aaB,lt_succ_of_lt->abS,ne_of_lt->abT,add_zero->aaS,add_mul->aaQ
open Array renaming getD_eq_getD_getElem?->aaD,replicate->aal,getElem?_setIfInBounds_ne->aaV,getElem?_eq_none->aax,getElem?_eq_getElem->aas,setIfInBounds_comm->abP,toArray_toList->aaW,map_congr_left->abR
open Bool renaming and_eq_true->v0,not_eq_true'->aay,or_eq_false_iff->aao,not_eq_true->abO,or_eq_true->aan,not_true->abk,false_or->aaJ
open List renaming all_eq_true->aah,getElem?_append_right->aap,getElem?_append_left->aam,mem_of_mem_take->aaC,flatten_append->abf,eq_nil_iff_forall_not_mem->abM,getElem?_toArray->abK,length_map->aaz,getElem?_eq_some_iff->aab,length_append->aav,getElem?_map->aaI,length_take->abg,take_append_drop->abL,mem_append->aad,eq_nil_of_length_eq_zero->aaK,mem_cons->aaf,getElem?_set->abJ,mem_map->aa8,getElem?_cons_succ->abQ,map_take->abp,filter_eq_self->abN,getElem?_take->aaw,any_eq_false->abl,any_eq_true->aaE,map_toArray->abo,map_append->abc,map_drop->abw,map_cons->aaA,map_nil->abe,range->hV
namespace Go.AM
open Go.RowKit
variable {E:Go.AM.Env} {w:World} {k l sz n e by_ i j N nx q nx' s id:Nat} {h:Int} {t ty nt:TypeId} {els zd:Go.AM.Lad} {g m gy:Bool} {a:Act} {f:FuncId} {nob nw:Go.AM.Laa} {out:Go.AM.T} {st:Go.AM.St} {sl:Go.AM.Lab} {u:Value} {P:Program} {R p G:Prop} {α:Type}
section
variable {P:Program} {d:Option Tmp} {ty:TypeId} {ps:String} {af:Array Edge} {gd:Option (Nat×Bool)} {x y z:Operand}
theorem JD {o b h c:Nat} (hr:E.r o=some (b,k)) (h1:l<=h) (h2:h<=n) (hlc:n<=c):cvC E w (.s o sz l (h-l)) (sliced (some ⟨b,0,none⟩) l h c sz):=by
 refine⟨_,_,b,k,hr,rfl,by omega,?_⟩
 by_cases hlh:h=l
 .left;omega
 right
 rw[if_neg oaa]
 simp[Addr.add]
 try exact λh=>h.symm
theorem Ov {t:Nat} {g2:Bool} {o:Nat} {rt:TypeId} {hi:Operand} [ht:TySl P t e sz by_] (hn:els.length=n) (h0:0<=h) (h2:h<=n):
 AWN P ⟨d,.slice t x none (some hi) none,ty,ps,af,gd⟩ [(x,.v (.c (.w o n))),(hi,.v (.c (.d g2 (.i .i64 h))))] [(o,.row rt sz els g m)] (.v (.c (.s o sz 0 h.toNat))) []:=
 cH λE ac w hne hob=>by
  have k1:=hne x _ (.head _)
  have k3:=iN (hne hi _ (.tail _ (.head _)))
  obtain⟨b,c,hr,hu⟩:=k1
  obtain⟨b',c',arr,hr',_,_,hlc,_⟩:=hob o _ (.head _)
  rw[hr] at hr';cases hr'
  obtain⟨i,z,hi1,hi2,_⟩:=ht.i
  obtain⟨he,hu'⟩:=BM ht.u
  refine⟨sliced (some ⟨b,0,none⟩) 0 h.toNat c sz,?_,JD (w:=w) (n:=n) hr (aat _) oaa oaa⟩
  simp[execOp,hu,k3,run_sliceAt_slice w t _ _ _ _ hu',run_slice_h w t (some ⟨b,0,none⟩) n c hu' .i64 h h0 oaa,he,fc hi1,hi2]
theorem Ow {t:Nat} {g2:Bool} {o:Nat} {rt:TypeId} {l:Int} {lo:Operand} [ht:TySl P t e sz by_] (hn:els.length=n) (h0:0<=l) (h2:l<=n):
 AWN P ⟨d,.slice t x (some lo) none none,ty,ps,af,gd⟩ [(x,.v (.c (.w o n))),(lo,.v (.c (.d g2 (.i .i64 l))))] [(o,.row rt sz els g m)] (.v (.c (.s o sz l.toNat (n-l.toNat)))) []:=
 cH λE ac w hne hob=>by
  have k1:=hne x _ (.head _)
  have k3:=iN (hne lo _ (.tail _ (.head _)))
  obtain⟨b,c,hr,hu⟩:=k1
  obtain⟨b',c',arr,hr',_,_,hlc,_⟩:=hob o _ (.head _)
  rw[hr] at hr';cases hr'
  obtain⟨i,z,hi1,hi2,_⟩:=ht.i
  obtain⟨he,hu'⟩:=BM ht.u
  refine⟨sliced (some ⟨b,0,none⟩) l.toNat n c sz,?_,JD (w:=w) (n:=n) hr oaa (aai _) oaa⟩
  simp[execOp,hu,k3,run_sliceAt_slice w t _ _ _ _ hu',run_slice_l w t (some ⟨b,0,none⟩) n c hu' .i64 l h0 oaa,he,fc hi1,hi2]
theorem Oo {kd:IntKind} {o:Nat} {i:Int} [ht:TySl P t e sz by_] (h0:0<=i) (h1:i<n):
 AWN P ⟨d,.indexAddr t x y,ty,ps,af,gd⟩ [(x,.v (.c (.wn o n))),(y,.v (.c (.d g (.i kd i))))] [] (.v (.c (.e o sz i.toNat 0))) []:=by
 intro cx E a w ok hn hb hf
 have h2:cvT E w (.v (.c (.w o n))) (a.eval x):=by
  rcases hn x _ (.head _) with⟨_,h,_⟩|⟨_,h⟩
  .omega
  exact h
 exact Jf (P:=P) (d:=d) (ty:=ty) (ps:=ps) (af:=af) (gd:=gd) (g:=g) (kd:=kd) (t:=t) h0 h1 cx E a w ok (λz u hm=>by
  simp at hm
  rcases hm with⟨rfl,rfl⟩|⟨rfl,rfl⟩
  .exact h2
  exact hn _ _ (.tail _ (.head _))) (λ_ _ h=>by cases h) hf
theorem Es {o:Nat} {rt:TypeId} {el:List D} (he:els[i]?=some el) (h:de E w o (.rown rt sz els g)):de E w o (.row rt sz els g true):=by
 rcases h with⟨_,h⟩|⟨_,b,c,arr,k1,k2,k3,k4,k5,k6,k7,k8⟩
 .subst h;simp at he
 exact⟨b,c,arr,k1,k2,k3,k4,k5,k6,k7,λ_=>k8,λh=>by cases h⟩
theorem RR {o:Nat} {rt:TypeId} {el:List D} {c:C} [ht:TySc P t] (he:els[i]?=some el) (hc:ld1 g j el=some c):
 AWN P ⟨d,.load t x,ty,ps,af,gd⟩ [(x,.v (.c (.e o sz i j)))] [(o,.rown rt sz els g)] (.v (.c c)) []:=by
 intro cx E a w ok hn hb hf
 exact Jg (P:=P) (m:=true) he hc cx E a w ok hn (λl x h=>by simp at h;obtain⟨rfl,rfl⟩:=h;exact Es he (hb _ _ (.head _))) hf
theorem In {o:Nat} {rt:TypeId} {el:List D} {cs:List C} [ht:TyAg P t n] (he:els[i]?=some el) (hj:Kr g j n el=some cs):
 AWN P ⟨d,.load t x,ty,ps,af,gd⟩ [(x,.v (.c (.e o sz i j)))] [(o,.rown rt sz els g)] (.v (.agg cs)) []:=by
 intro cx E a w ok hn hb hf
 exact AD (P:=P) (m:=true) he hj cx E a w ok hn (λl x h=>by simp at h;obtain⟨rfl,rfl⟩:=h;exact Es he (hb _ _ (.head _))) hf
theorem WV {args:Array Operand} {tys:Array TypeId} (h:a.eval x= .func (.func f) #[] #[]):
 execOp a.eval ⟨d,.call ⟨.value x,args,tys⟩,ty,ps,af,gd⟩=execOp a.eval ⟨d,.call ⟨.value (.func f),args,tys⟩,ty,ps,af,gd⟩:=by
 have e:a.eval (.func f)= .func (.func f) #[] #[]:=rfl
 simp only[execOp,resolve,h,e]
theorem YE {args:Array Operand} {tys:Array TypeId} {needs:List (Operand×T)} (h:AWN P ⟨d,.call ⟨.value (.func f),args,tys⟩,ty,ps,af,gd⟩ needs nob out nw):
 AWN P ⟨d,.call ⟨.value x,args,tys⟩,ty,ps,af,gd⟩ ((x,.v (.c (.fn f)))::needs) nob out nw:=by
 intro cx E a w ok hn hb hf
 have:=h cx E a w ok (λy t hm=>hn y t (.tail _ hm)) hb hf
 have e:a.eval x= .func (.func f) #[] #[]:=hn x _ (.head _)
 unfold Oper.wp at this ⊢
 rw[WV e]
 exact this
end
section
variable {P:Program} {N:Nat} {d:Tmp} {ty:TypeId} {ps:String} {af:Array Edge} {gd:Option (Nat×Bool)} {x y z:Operand} {sl:Lab} {ob:Laa} {nx:Nat} {α:Type} {enc:α->List D}
theorem Qn {args:Array Operand} {tys:Array TypeId} {st':St} {i:Inf} (hx:opT st.sl x= .v (.c (.fn f))) (h:NS P N ⟨some d,.call ⟨.value (.func f),args,tys⟩,ty,ps,af,gd⟩ st st' i):
 NS P N ⟨some d,.call ⟨.value x,args,tys⟩,ty,ps,af,gd⟩ st st' {i with needs:=(x,.v (.c (.fn f)))::i.needs}:=by
 obtain⟨h1,h2,h3,h4,h5,h6,h7⟩:=h
 exact⟨YE h1,h2,h3,⟨hx,h4⟩,h5,h6,h7⟩
theorem YJ {t:Nat} {g2:Bool} {o:Nat} {ys:List α} {rt:TypeId} {hi:Operand} [ht:TySl P t e sz by_] (H:eT ys 0 h=true) (hn:ys.length=n) (hx:opT sl x= .v (.c (.w o n))) (ho:go ob o=some (.row rt sz (ys.map enc) g m)) (hh:opT sl hi= .v (.c (.d g2 (.i .i64 h)))) (hN:nlt d N=true):
 NS0 P N ⟨some d,.slice t x none (some hi) none,ty,ps,af,gd⟩ sl ob nx d (.v (.c (.s o sz 0 h.toNat))) ⟨d,[(x,.v (.c (.w o n))),(hi,.v (.c (.d g2 (.i .i64 h))))],[(o,.row rt sz (ys.map enc) g m)],.v (.c (.s o sz 0 h.toNat)),[]⟩:=by
 simp only[eT,decide_eq_true_eq] at H
 exact dS (st:=⟨sl,ob,nx⟩) (Ov (by simpa using hn) H.2.1 oaa) rfl hN ⟨hx,hh,trivial⟩ ⟨ho,trivial⟩ rfl
theorem Tx {t:Nat} {g2:Bool} {o:Nat} {ys:List α} {rt:TypeId} {l:Int} {lo:Operand} [ht:TySl P t e sz by_] (H:eT ys l ys.length=true) (hn:ys.length=n) (hx:opT sl x= .v (.c (.w o n))) (ho:go ob o=some (.row rt sz (ys.map enc) g m)) (hl:opT sl lo= .v (.c (.d g2 (.i .i64 l)))) (hN:nlt d N=true):
 NS0 P N ⟨some d,.slice t x (some lo) none none,ty,ps,af,gd⟩ sl ob nx d (.v (.c (.s o sz l.toNat (n-l.toNat)))) ⟨d,[(x,.v (.c (.w o n))),(lo,.v (.c (.d g2 (.i .i64 l))))],[(o,.row rt sz (ys.map enc) g m)],.v (.c (.s o sz l.toNat (n-l.toNat))),[]⟩:=by
 simp only[eT,decide_eq_true_eq] at H
 exact dS (st:=⟨sl,ob,nx⟩) (Ow (by simpa using hn) H.1 oaa) rfl hN ⟨hx,hl,trivial⟩ ⟨ho,trivial⟩ rfl
theorem VI {o:Nat} {ys:List α} (H:eT ys 0 h=true) (ho:go ob o=some (.row t sz (ys.map enc) g m)):Src ob (.s o sz 0 h.toNat) ((ys.take h.toNat).map enc) g:=by
 simp only[eT,decide_eq_true_eq] at H
 have:=Src.s (off:=0) (len:=h.toNat) ho (by simp;omega)
 rwa [List.drop_zero,<-abp] at this
theorem QQ {o:Nat} {ys:List α} {l:Int} (H:eT ys l ys.length=true) (hn:ys.length=n) (ho:go ob o=some (.row t sz (ys.map enc) g m)):Src ob (.s o sz l.toNat (n-l.toNat)) ((ys.drop l.toNat).map enc) g:=by
 simp only[eT,decide_eq_true_eq] at H
 subst hn
 have:=Src.s (off:=l.toNat) (len:=ys.length-l.toNat) ho (by simp;omega)
 rwa [<-abw,List.take_of_length_le (by simp)] at this
theorem qy {kd:IntKind} {o:Nat} {i:Int} {ys:List α} {a:α} [TySl P t e sz by_] (H:ix ys i=some a) (hx:opT sl x= .v (.c (.wn o n)):=by exact rfl) (hy:opT sl y= .v (.c (.d g (.i kd i))):=by exact rfl) (hn:ys.length=n:=by first|rfl|simp) (hN:nlt d N=true:=by exact rfl):
 NS0 P N ⟨some d,.indexAddr t x y,ty,ps,af,gd⟩ sl ob nx d (.v (.c (.e o sz i.toNat 0))) ⟨d,[(x,.v (.c (.wn o n))),(y,.v (.c (.d g (.i kd i))))],[],.v (.c (.e o sz i.toNat 0)),[]⟩:=
 dS (st:=⟨sl,ob,nx⟩) (Oo (ixE H).1 (by have:=Ur H;omega)) rfl hN ⟨hx,hy,trivial⟩ trivial rfl
theorem oen {o:Nat} {rt:TypeId} {el:List D} {c:C} [TySc P t] (hx:opT sl x= .v (.c (.e o sz i j)):=by exact rfl) (ho:go ob o=some (.rown rt sz els g):=by exact rfl) (hN:nlt d N=true:=by exact rfl) (he:els[i]?=some el) (hc:ld1 g j el=some c:=by exact rfl):
 NS0 P N ⟨some d,.load t x,ty,ps,af,gd⟩ sl ob nx d (.v (.c c)) ⟨d,[(x,.v (.c (.e o sz i j)))],[(o,.rown rt sz els g)],.v (.c c),[]⟩:=dS (st:=⟨sl,ob,nx⟩) (RR he hc) rfl hN ⟨hx,trivial⟩ ⟨ho,trivial⟩ rfl
theorem KP {o:Nat} {rt:TypeId} {el:List D} {cs:List C} [TyAg P t n] (hx:opT sl x= .v (.c (.e o sz i j)):=by exact rfl) (ho:go ob o=some (.rown rt sz els g):=by exact rfl) (hN:nlt d N=true:=by exact rfl) (he:els[i]?=some el) (hc:Kr g j n el=some cs:=by exact rfl):
 NS0 P N ⟨some d,.load t x,ty,ps,af,gd⟩ sl ob nx d (.v (.agg cs)) ⟨d,[(x,.v (.c (.e o sz i j)))],[(o,.rown rt sz els g)],.v (.agg cs),[]⟩:=dS (st:=⟨sl,ob,nx⟩) (In he hc) rfl hN ⟨hx,trivial⟩ ⟨ho,trivial⟩ rfl
theorem yH {ys:List α} {i:Int} {a:α} (H:ix ys i=some a):ys.map enc≠[]:=by
 intro h
 have:=Ur H
 have h0:=(ixE H).1
 rw[List.map_eq_nil_iff] at h
 subst h
 simp at this;omega
end
theorem wnn {o n':Nat} (h:gt sl k= .v (.c (.wn o n))) (hn:n=n'):gt sl k= .v (.c (.wn o n')):=hn▸h
def T4 (o:Nat) (x:D) (g:Bool) (k:Nat):C->Option (C×Lac)
 | .wn l n=>match d0 l o with
  |true=>some (.d g x,[(k,n)])
  |false=>some (.wn l n,[])
 |c=>some (c,[])
def Ja (o:Nat) (x:D) (g:Bool) (k:Nat):List C->Option (List C×Lac)
 |[]=>some ([],[])
 |c::cs=>match T4 o x g k c,Ja o x g k cs with
  |some (x,e),some (xs,es)=>some (x::xs,e++es)
  |_,_=>none
def T7 (o:Nat) (x:D) (g:Bool) (k:Nat):V->Option (V×Lac)
 | .c c=>match T4 o x g k c with
  |some (x,e)=>some (.c x,e)
  |none=>none
 | .agg cs=>match Ja o x g k cs with
  |some (x,e)=>some (.agg x,e)
  |none=>none
def Ma (o:Nat) (x:D) (g:Bool) (k:Nat):List V->Option (List V×Lac)
 |[]=>some ([],[])
 |c::cs=>match T7 o x g k c,Ma o x g k cs with
  |some (x,e),some (xs,es)=>some (x::xs,e++es)
  |_,_=>none
def T6 (o:Nat) (x:D) (g:Bool) (k:Nat):T->Option (T×Lac)
 | .v v=>match T7 o x g k v with
  |some (x,e)=>some (.v x,e)
  |none=>none
 | .tup vs=>match Ma o x g k vs with
  |some (x,e)=>some (.tup x,e)
  |none=>none
 | .any=>some (.any,[])
def T5 (o:Nat) (x:D) (g:Bool) (k:Nat):Lab->Option (Lab×Lac)
 |[]=>some ([],[])
 |(j,t)::r=>match T6 o x g k t,T5 o x g k r with
  |some (x,e),some (xs,es)=>some ((j,x)::xs,e++es)
  |_,_=>none
def yf (o:Nat) (x:D) (g:Bool) (k:Nat):Laa->Option (Laa×Lac)
 |[]=>some ([],[])
 |(j,.var t cs)::r=>match d0 j o with
  |true=>none
  |false=>match Ja o x g k cs,yf o x g k r with
   |some (x,e),some (xs,es)=>some ((j,.var t x)::xs,e++es)
   |_,_=>none
 |(j,.row t sz els gg m)::r=>match yf o x g k r with
  |some (xs,es)=>match d0 j o with
   |true=>some (xs,es)
   |false=>some ((j,.row t sz els gg m)::xs,es)
  |none=>none
 |(j,.rown t sz els gg)::r=>match yf o x g k r with
  |some (xs,es)=>match d0 j o with
   |true=>some (xs,es)
   |false=>some ((j,.rown t sz els gg)::xs,es)
  |none=>none
 |(j,.abs i y)::r=>match yf o x g k r with
  |some (xs,es)=>match d0 j o with
   |true=>some (xs,es)
   |false=>some ((j,.abs i y)::xs,es)
  |none=>none
section
variable {E E':Env} {w:World} {o k:Nat} {x:D} {g:Bool} (hd:∀u,cvC E w (.wn o k) u->cvC E' w (.d g x) u) (hk:kE E w E' w)
include hd hk
theorem PO {c c':C} {e:Lac} (h:T4 o x g k c=some (c',e)) (he:Eqs e) (hc:cvC E w c u):cvC E' w c' u:=by
 cases c with
 |wn l n=>
  simp only[T4] at h
  split at h
  .rename_i hb
   have:=aae hb
   subst this
   simp at h;obtain⟨rfl,rfl⟩:=h
   have hn:k=n:=he.1
   subst hn
   exact hd u hc
  simp at h;obtain⟨rfl,rfl⟩:=h;exact u9 hk hc
 |_=>simp only[T4,Option.some.injEq,Prod.mk.injEq] at h;obtain⟨rfl,rfl⟩:=h;exact u9 hk hc
theorem Gm:∀{cs cs':List C} {e:Lac} {us:Lae},Ja o x g k cs=some (cs',e)->Eqs e->CV E w cs us->CV E' w cs' us
 |[],cs',e,us,h,_,hc=>by
  simp[Ja] at h;obtain⟨rfl,rfl⟩:=h
  cases us with
  |nil=>trivial
  |cons _ _=>exact hc.elim
 |c::cs,cs',e,us,h,he,hc=>by
  cases us with
  |nil=>exact hc.elim
  |cons u us=>
   simp only[Ja] at h
   split at h
   .rename_i h1 h2
    simp at h;obtain⟨rfl,rfl⟩:=h
    obtain⟨k1,k2⟩:=eW he
    exact⟨PO hd hk h1 k1 hc.1,Gm h2 k2 hc.2⟩
   cases h
theorem PP {v v':V} {e:Lac} (h:T7 o x g k v=some (v',e)) (he:Eqs e) (hv:cvV E w v u):cvV E' w v' u:=by
 cases v with
 |c c=>
  simp only[T7] at h
  split at h
  .rename_i h1;simp at h;obtain⟨rfl,rfl⟩:=h;exact PO hd hk h1 he hv
  cases h
 |agg cs=>
  simp only[T7] at h
  split at h
  .rename_i h1;simp at h;obtain⟨rfl,rfl⟩:=h;obtain⟨arr,hu,hc⟩:=hv;exact⟨arr,hu,Gm hd hk h1 he hc⟩
  cases h
theorem Mb:∀{cs cs':List V} {e:Lac} {us:Lae},Ma o x g k cs=some (cs',e)->Eqs e->VV E w cs us->VV E' w cs' us
 |[],cs',e,us,h,_,hc=>by
  simp[Ma] at h;obtain⟨rfl,rfl⟩:=h
  cases us with
  |nil=>trivial
  |cons _ _=>exact hc.elim
 |c::cs,cs',e,us,h,he,hc=>by
  cases us with
  |nil=>exact hc.elim
  |cons u us=>
   simp only[Ma] at h
   split at h
   .rename_i h1 h2
    simp at h;obtain⟨rfl,rfl⟩:=h
    obtain⟨k1,k2⟩:=eW he
    exact⟨PP hd hk h1 k1 hc.1,Mb h2 k2 hc.2⟩
   cases h
theorem WY {v v':T} {e:Lac} (h:T6 o x g k v=some (v',e)) (he:Eqs e) (hv:cvT E w v u):cvT E' w v' u:=by
 cases v with
 |v v=>
  simp only[T6] at h
  split at h
  .rename_i h1;simp at h;obtain⟨rfl,rfl⟩:=h;exact PP hd hk h1 he hv
  cases h
 |tup vs=>
  simp only[T6] at h
  split at h
  .rename_i h1;simp at h;obtain⟨rfl,rfl⟩:=h;obtain⟨arr,hu,hc⟩:=hv;exact⟨arr,hu,Mb hd hk h1 he hc⟩
  cases h
 |any=>simp[T6] at h;obtain⟨rfl,rfl⟩:=h;trivial
theorem Kh {j:Nat} {u:Value}:∀{sl sl':Lab} {e:Lac},T5 o x g k sl=some (sl',e)->Eqs e->cvT E w (gt sl j) u->cvT E' w (gt sl' j) u
 |[],sl',e,h,_,_=>by simp[T5] at h;obtain⟨rfl,rfl⟩:=h;trivial
 |(i,t)::r,sl',e,h,he,hc=>by
  simp only[T5] at h
  split at h
  .rename_i h1 h2
   simp at h;obtain⟨rfl,rfl⟩:=h
   obtain⟨k1,k2⟩:=eW he
   by_cases hj:i=j
   .subst hj;rw[ew] at hc ⊢;exact WY hd hk h1 k1 hc
   rw[dL _ _ hj] at hc ⊢;exact Kh h2 k2 hc
  cases h
theorem rf {l:Nat} {y:Ob} (hlo:l≠o) (hF:∀b c,E.r l=some (b,c)->¬E.F b->¬E'.F b):∀{ob ob':Laa} {e:Lac},yf o x g k ob=some (ob',e)->Eqs e->go ob' l=some y->(∀y,go ob l=some y->de E w l y)->de E' w l y
 |[],ob',e,h,_,hy,_=>by simp[yf] at h;obtain⟨rfl,rfl⟩:=h;cases hy
 |(i,.var t cs)::r,ob',e,h,he,hy,hb=>by
  simp only[yf] at h
  split at h
  .cases h
  split at h
  .rename_i a1 a2
   simp at h;obtain⟨rfl,rfl⟩:=h
   obtain⟨k1,k2⟩:=eW he
   by_cases hi:i=l
   .subst hi
    rw[cW] at hy;cases hy
    obtain⟨b,c,arr,q1,q2,q3,q4⟩:=hb _ (cW _ _ _)
    exact⟨b,c,arr,hk.r _ _ q1,q2,Gm hd hk a1 k1 q3,hF b c q1 q4⟩
   rw[bY _ _ hi] at hy
   exact rf hlo hF a2 k2 hy (λy hy=>hb y (by rw[bY _ _ hi];exact hy))
  cases h
 |(i,.row t sz els gg m)::r,ob',e,h,he,hy,hb=>by
  simp only[yf] at h
  split at h
  .rename_i a2
   split at h
   .rename_i hb2
    simp at h;obtain⟨rfl,rfl⟩:=h
    have hio:=aae hb2
    exact rf hlo hF a2 he hy (λy hy=>hb y (by rw[bY _ _ (λe=>hlo (e.symm.trans hio))];exact hy))
   simp at h;obtain⟨rfl,rfl⟩:=h
   by_cases hi:i=l
   .subst hi
    rw[cW] at hy;cases hy
    exact gN hk (λ_ _ _=>rfl) (λb c hr=>hF b c hr) (hb _ (cW _ _ _))
   rw[bY _ _ hi] at hy
   exact rf hlo hF a2 he hy (λy hy=>hb y (by rw[bY _ _ hi];exact hy))
  cases h
 |(i,.rown t sz els gg)::r,ob',e,h,he,hy,hb=>by
  simp only[yf] at h
  split at h
  .rename_i a2
   split at h
   .rename_i hb2
    simp at h;obtain⟨rfl,rfl⟩:=h
    have hio:=aae hb2
    exact rf hlo hF a2 he hy (λy hy=>hb y (by rw[bY _ _ (λe=>hlo (e.symm.trans hio))];exact hy))
   simp at h;obtain⟨rfl,rfl⟩:=h
   by_cases hi:i=l
   .subst hi
    rw[cW] at hy;cases hy
    exact gN hk (λ_ _ _=>rfl) (λb c hr=>hF b c hr) (hb _ (cW _ _ _))
   rw[bY _ _ hi] at hy
   exact rf hlo hF a2 he hy (λy hy=>hb y (by rw[bY _ _ hi];exact hy))
  cases h
 |(i,.abs _ _)::r,ob',e,h,he,hy,hb=>by
  simp only[yf] at h
  split at h
  .rename_i a2
   split at h
   .rename_i hb2
    simp at h;obtain⟨rfl,rfl⟩:=h
    have hio:=aae hb2
    exact rf hlo hF a2 he hy (λy hy=>hb y (by rw[bY _ _ (λe=>hlo (e.symm.trans hio))];exact hy))
   simp at h;obtain⟨rfl,rfl⟩:=h
   by_cases hi:i=l
   .subst hi
    rw[cW] at hy;cases hy
    exact gN hk (λ_ _ _=>rfl) (λb c hr=>hF b c hr) (hb _ (cW _ _ _))
   rw[bY _ _ hi] at hy
   exact rf hlo hF a2 he hy (λy hy=>hb y (by rw[bY _ _ hi];exact hy))
  cases h
end
theorem lL {o k:Nat} {x:D} {g:Bool}:∀{ob ob':Laa} {e:Lac},yf o x g k ob=some (ob',e)->go ob' o=none
 |[],ob',e,h=>by simp[yf] at h;obtain⟨rfl,rfl⟩:=h;rfl
 |(i,.var t cs)::r,ob',e,h=>by
  simp only[yf] at h
  split at h
  .cases h
  rename_i hb
  split at h
  .rename_i a1 a2
   simp at h;obtain⟨rfl,rfl⟩:=h
   rw[bY _ _ (jk hb)];exact lL a2
  cases h
 |(i,.row t sz els gg m)::r,ob',e,h=>by
  simp only[yf] at h
  split at h
  .rename_i a2
   split at h
   .simp at h;obtain⟨rfl,rfl⟩:=h;exact lL a2
   rename_i hb
   simp at h;obtain⟨rfl,rfl⟩:=h
   rw[bY _ _ (jk hb)];exact lL a2
  cases h
 |(i,.rown t sz els gg)::r,ob',e,h=>by
  simp only[yf] at h
  split at h
  .rename_i a2
   split at h
   .simp at h;obtain⟨rfl,rfl⟩:=h;exact lL a2
   rename_i hb
   simp at h;obtain⟨rfl,rfl⟩:=h
   rw[bY _ _ (jk hb)];exact lL a2
  cases h
 |(i,.abs _ _)::r,ob',e,h=>by
  simp only[yf] at h
  split at h
  .rename_i a2
   split at h
   .simp at h;obtain⟨rfl,rfl⟩:=h;exact lL a2
   rename_i hb
   simp at h;obtain⟨rfl,rfl⟩:=h
   rw[bY _ _ (jk hb)];exact lL a2
  cases h
theorem fU {ty:Nat} {sl':Lab} {ob ob':Laa} {e1 e2:Lac} (o:Nat) (hrv:rsv o=false:=by exact rfl) (ho:go ob o=some (.rown ty sz els g):=by exact rfl) (hs:T5 o (.l els) g els.length sl=some (sl',e1):=by exact rfl) (hb:yf o (.l els) g els.length ob=some (ob',e2):=by exact rfl) (h1:Eqs e1:=by repeat (first|exact trivial|refine⟨by first|rfl|simp,?_⟩)) (h2:Eqs e2:=by repeat (first|exact trivial|refine⟨by first|rfl|simp,?_⟩)):
 ea N ⟨sl,ob,nx⟩ ⟨sl',ob',nx⟩:=by
 intro cx E a w hR
 rcases hR.obs o _ ho with⟨hE,hels⟩|⟨hE,b,c,arr,hr,hh,ha,hlc,hmx,hes,hrd,hF⟩
 .have hk:kE E w E w:=⟨λ_ _ h=>h,λ_ _ h=>h,λ_ _ _=>rfl,λ_ _ h=>⟨h,rfl⟩,λ_ h=>⟨h,.refl _ _⟩,rfl⟩
  have hd:∀u,cvC E w (.wn o els.length) u->cvC E w (.d g (.l els)) u:=by
   intro u hu
   rcases hu with⟨_,_,rfl⟩|⟨hu,_⟩
   .subst hels;show rdD _ _ _ _;rw[rdD];exact⟨none,0,rfl,aai _,.inl rfl⟩
   exact absurd hE hu
  refine⟨E,hR.ok,hR.dom,λl y hl=>?_,λj=>Kh hd hk hs h1 (hR.sl j),hR.dfr,hR.size,hR.td⟩
  by_cases e:l=o
  .subst e;rw[lL hb] at hl;cases hl
  exact rf hd hk e (λ_ _ _ h=>h) hb h2 hl (λy hy=>hR.obs l y hy)
 obtain⟨hb1,hb2⟩:=hR.ok.rb o b c hr
 have hb3:cx.w0.heap.size<=b:=hb2.resolve_right (λh=>by rw[hrv] at h;cases h.2)
 let E':Env:=⟨E.r,λk=>E.F k\/k=b,λk=>E.G k\/(g=true/\k=b),E.T,E.Z,E.n⟩
 have hH:∀g' k,E.H g' k->E'.H g' k:=λg' k hk=>by cases g'<;>exact .inl hk
 have hk:kE E w E' w:=⟨λ_ _ h=>h,hH,λ_ _ _=>rfl,λ_ _ h=>⟨h,rfl⟩,λ_ h=>⟨h,.refl _ _⟩,rfl⟩
 have hd:∀u,cvC E w (.wn o els.length) u->cvC E' w (.d g (.l els)) u:=by
  intro u hu
  rcases hu with⟨hu,_⟩|⟨_,b',c',hr',rfl⟩
  .exact absurd hu hE
  rw[hr] at hr';cases hr'
  show rdD _ _ _ _
  rw[rdD]
  refine⟨_,_,rfl,hlc,.inr ⟨b,0,rfl,?_,cU (λ_ _=>rfl) (hH g) rfl _ _ hrd⟩⟩
  cases g
  .exact .inr rfl
  exact .inr ⟨rfl,rfl⟩
 refine⟨E',⟨?_,?_,?_,hR.ok.rb,hR.ok.inj,hR.ok.os,hR.ok.tape,hR.ok.output,hR.ok.size,hR.ok.block,hR.ok.pin,λk hk=>hk.elim (hR.ok.ff k) (λe=>.inr (e▸hb3)),λk hk hk'=>hk.elim (λh=>hR.ok.gc k h hk') (λe=>e▸.mk hh),
  ⟨λl k h=>?_,hR.ok.sf.tt,λk h=>?_,hR.ok.sf.zs,hR.ok.sf.ze⟩⟩,hR.dom,λl y hl=>?_,λj=>Kh hd hk hs h1 (hR.sl j),hR.dfr,hR.size,hR.td⟩
 .rintro k (h|rfl)
  .exact hR.ok.fb k h
  exact hb1
 .rintro k (h|⟨_,rfl⟩)
  .exact .inl (hR.ok.gf k h)
  exact .inr rfl
 .rintro k (h|⟨_,rfl⟩)
  .exact hR.ok.gn k h
  exact .inl hb3
 .obtain⟨h1,h2,h3,h4⟩:=hR.ok.sf.tb l k h
  exact⟨h1,λhk=>hk.elim h2 (λe=>by subst e;exact h3 o c hr),h3,h4⟩
 .obtain⟨h1,h2,h3,h4⟩:=hR.ok.sf.zc k h
  exact⟨h1,λhk=>hk.elim h2 (λe=>by subst e;exact h3 o c hr),h3,h4⟩
 by_cases e:l=o
 .subst e;rw[lL hb] at hl;cases hl
 exact rf hd hk e (λb' c' hr' hn hn'=>hn'.elim hn (λh=>by subst h;exact e (hR.ok.inj _ _ _ _ _ hr' hr))) hb h2 hl (λy hy=>hR.obs l y hy)
def RC.frz:RC->RC
 | .own _ _ els _=>.d (.l els)
 |r=>r
def RV.frz:RV->RV
 | .c r=>.c r.frz
 | .agg rs=>.agg (rs.map RC.frz)
def RC.full:RC->Prop
 | .own _ _ els n=>els.length=n
 |_=>True
def Of:List RC->Prop
 |[]=>True
 |r::rs=>r.full/\Of rs
def RV.full:RV->Prop
 | .c r=>r.full
 | .agg rs=>Of rs
def Kg:List RV->Prop
 |[]=>True
 |r::rs=>r.full/\Kg rs
section
variable {w:World} {G G2:Nat->Prop} {base:Nat}
theorem Ve (hG:∀b,G b->G2 b) {r:RC} {bs:Lac} (h:rcR w G base r u bs) (hf:r.full) (hb:∀p∈bs,G2 p.1):
 rcR w G2 base r.frz u []/\∀p∈bs,base<=p.1/\p.1<w.heap.size/\js w p.1:=by
 cases r with
 |d x=>obtain⟨rfl,h⟩:=h;exact⟨⟨rfl,cT (λ_ _=>rfl) hG _ _ h⟩,by simp⟩
 |nil=>obtain⟨rfl,h⟩:=h;exact⟨⟨rfl,h⟩,by simp⟩
 |own ty sz els n=>
  obtain⟨b,c,arr,rfl,rfl,hh,h1,h2,h3,h4,h5,h6,h7⟩:=h
  have hf:els.length=n:=hf
  refine⟨⟨rfl,some ⟨b,0,none⟩,c,by rw[hf],h2,.inr ⟨b,0,rfl,hb _ (.head _),cU (λ_ _=>rfl) hG rfl _ _ h5⟩⟩,λp hp=>?_⟩
  obtain rfl:=List.mem_singleton.1 hp
  exact⟨h7,W1 hh,.mk hh⟩
theorem QG (hG:∀b,G b->G2 b):∀{rs:List RC} {us:Lae} {bs:Lac},Is w G base rs us bs->Of rs->(∀p∈bs,G2 p.1)->
 Is w G2 base (rs.map RC.frz) us []/\∀p∈bs,base<=p.1/\p.1<w.heap.size/\js w p.1
 |[],[],bs,h,_,_=>by have h:bs=[]:=h;subst h;exact⟨rfl,by simp⟩
 |r::rs,u::us,bs,⟨b1,b2,e,h1,h2⟩,hf,hb=>by
  subst e
  obtain⟨k1,k2⟩:=Ve hG h1 hf.1 (λp hp=>hb p (by simp[hp]))
  obtain⟨k3,k4⟩:=QG hG h2 hf.2 (λp hp=>hb p (by simp[hp]))
  exact⟨⟨[],[],rfl,k1,k3⟩,λp hp=>(aad.1 hp).elim (k2 p) (k4 p)⟩
 |[],_::_,_,h,_,_=>h.elim
 |_::_,[],_,h,_,_=>h.elim
theorem Vr (hG:∀b,G b->G2 b) {r:RV} {bs:Lac} (h:rvR w G base r u bs) (hf:r.full) (hb:∀p∈bs,G2 p.1):
 rvR w G2 base r.frz u []/\∀p∈bs,base<=p.1/\p.1<w.heap.size/\js w p.1:=by
 cases r with
 |c r=>exact Ve hG h hf hb
 |agg rs=>
  obtain⟨arr,rfl,h⟩:=h
  obtain⟨k1,k2⟩:=QG hG h hf hb
  exact⟨⟨arr,rfl,k1⟩,k2⟩
theorem K0 (hG:∀b,G b->G2 b):∀{rs:List RV} {us:Lae} {bs:Lac},EY w G base rs us bs->Kg rs->(∀p∈bs,G2 p.1)->
 EY w G2 base (rs.map RV.frz) us []/\∀p∈bs,base<=p.1/\p.1<w.heap.size/\js w p.1
 |[],[],bs,h,_,_=>by have h:bs=[]:=h;subst h;exact⟨rfl,by simp⟩
 |r::rs,u::us,bs,⟨b1,b2,e,h1,h2⟩,hf,hb=>by
  subst e
  obtain⟨k1,k2⟩:=Vr hG h1 hf.1 (λp hp=>hb p (by simp[hp]))
  obtain⟨k3,k4⟩:=K0 hG h2 hf.2 (λp hp=>hb p (by simp[hp]))
  exact⟨⟨[],[],rfl,k1,k3⟩,λp hp=>(aad.1 hp).elim (k2 p) (k4 p)⟩
 |[],_::_,_,h,_,_=>h.elim
 |_::_,[],_,h,_,_=>h.elim
theorem Xy (hG:∀b,G b->G2 b) {rs:List RV} {bs:Lac} (h:Bg w G base rs u bs) (hf:Kg rs) (hb:∀p∈bs,G2 p.1):
 Bg w G2 base (rs.map RV.frz) u []/\∀p∈bs,base<=p.1/\p.1<w.heap.size/\js w p.1:=by
 cases rs with
 |nil=>obtain⟨arr,hu,h⟩:=h;obtain⟨k1,k2⟩:=K0 hG h hf hb;exact⟨⟨arr,hu,k1⟩,k2⟩
 |cons r rs=>
  cases rs with
  |nil=>exact Vr hG h hf.1 hb
  |cons r2 rs=>obtain⟨arr,hu,h⟩:=h;obtain⟨k1,k2⟩:=K0 hG h hf hb;exact⟨⟨arr,hu,k1⟩,k2⟩
end
theorem Fn.frzs {args:List AV} {res:List RV} (h:Fn P f args res) (hf:Kg res):Fn P f args (res.map RV.frz):=by
 refine⟨h.enters,λF w vals hF ht hA=>(h.calls F w vals hF ht hA).mono ?_⟩
 rintro e w' ⟨v,G,bs,he,hp,hG,hr,_⟩
 obtain⟨k1,k2⟩:=Xy (G2:=λb=>G b\/∃p∈bs,p.1=b) (λb h=>.inl h) hr hf (λp hp=>.inr ⟨p,hp,rfl⟩)
 refine⟨v,_,[],he,hp,?_,k1,by simp⟩
 rintro b (hb|⟨p,hm,rfl⟩)
 .exact hG b hb
 exact k2 p hm
theorem Wt {o:Oper} {needs:List (Operand×T)} (hn:els.length=n)
 (h:AWK P o needs nob (.v (.c (.w q n))) [(q,.row e sz els g true)] [] (some k)):AWK P o needs nob (.v (.c (.d g (.l els)))) [(q,.row e sz els g false)] [] (some k):=by
 intro cx E a w ok hne hnob hfr
 obtain⟨hq1,hq2⟩:=hfr q _ (.head _)
 refine Oper.wp_mono ?_ (h cx E a w ok hne hnob (λl x hm=>by simp at hm;obtain⟨rfl,_⟩:=hm;exact⟨hq1,hq2⟩))
 rintro a' w' ⟨v,E',k1,ok',k3,⟨b,c,hr,hv⟩,k5,k6,k7⟩
 obtain⟨b',c',arr,hr',hh,ha,hlc,hmx,hes,hrd,hFm,_⟩:=k5 q _ (.head _)
 rw[hr] at hr';cases hr'
 have hF:=hFm rfl
 obtain⟨hb1,hb2⟩:=ok'.rb q b c hr
 have hb3:cx.w0.heap.size<=b:=by
  rcases hb2 with h|h
  .exact h
  rw[hq2] at h;cases h.2
 let E2:Env:=⟨E'.r,λj=>E'.F j\/j=b,λj=>E'.G j\/(g=true/\j=b),E'.T,E'.Z,E'.n⟩
 have hH:∀g' j,E'.H g' j->E2.H g' j:=λg' j hj=>by cases g'<;>exact .inl hj
 have hold:∀l c',k≠l->E.r l≠some (b,c'):=λl c' hkl hl=>by
  have h1:=k3.r l _ (by simpa using hkl) hl
  have:=ok'.inj _ _ _ _ _ h1 hr
  subst this
  rw[hq1] at hl;cases hl
 refine⟨v,E2,k1,⟨?_,?_,?_,ok'.rb,ok'.inj,ok'.os,ok'.tape,ok'.output,ok'.size,ok'.block,ok'.pin,λj hj=>hj.elim (ok'.ff j) (λe=>.inr (e▸hb3)),λj hj hj'=>hj.elim (λh=>ok'.gc j h hj') (λe=>e▸.mk hh),
  ⟨λl j h=>?_,ok'.sf.tt,λj h=>?_,ok'.sf.zs,ok'.sf.ze⟩⟩,⟨k3.r,λj hj=>.inl (k3.F j hj),λj hj=>.inl (k3.G j hj),?_,k3.heap,k3.own,k3.ownk,k3.T,k3.Z,k3.n⟩,?_,λl x hm=>?_,(λ_ _ h=>by cases h),λl x hl=>?_⟩
 .rintro j (h|rfl)
  .exact ok'.fb j h
  exact hb1
 .rintro j (h|⟨_,rfl⟩)
  .exact .inl (ok'.gf j h)
  exact .inr rfl
 .rintro j (h|⟨_,rfl⟩)
  .exact ok'.gn j h
  exact .inl hb3
 .obtain⟨h1,h2,h3,h4⟩:=ok'.sf.tb l j h
  exact⟨h1,λhk=>hk.elim h2 (λe=>by subst e;exact h3 q c hr),h3,h4⟩
 .obtain⟨h1,h2,h3,h4⟩:=ok'.sf.zc j h
  exact⟨h1,λhk=>hk.elim h2 (λe=>by subst e;exact h3 q c hr),h3,h4⟩
 .rintro j (h|rfl)
  .exact k3.F' j h
  exact .inr (.inr (λl c' hkl=>hold l c' (λe=>hkl (by rw[e]))))
 .refine⟨some ⟨b,0,none⟩,c,by rw[hv,hn],hlc,.inr ⟨b,0,rfl,?_,cU (λ_ _=>rfl) (hH g) rfl _ _ hrd⟩⟩
  cases g
  .exact .inr rfl
  exact .inr ⟨rfl,rfl⟩
 .simp at hm;obtain⟨rfl,rfl⟩:=hm
  exact⟨b,c,arr,hr,hh,ha,hlc,hmx,hes,cU (λ_ _=>rfl) (hH g) rfl _ _ hrd,(λh=>by cases h),λ_=>⟨.inr rfl,λhg=>.inr ⟨hg,rfl⟩⟩⟩
 rcases k7 l x hl with h|⟨ob,hm⟩
 .exact .inl h
 simp at hm;obtain⟨rfl,_⟩:=hm;exact .inr ⟨_,.head _⟩
section
variable {P:Program} {N:Nat} {d:Tmp} {ty:TypeId} {ps:String} {af:Array Edge} {gd:Option (Nat×Bool)} {x y:Operand} {sl:Lab} {ob:Laa} {nx:Nat} {α:Type} {enc:α->List D}
theorem IM {o:Nat} {ys zs:List α} {c:C} (ls:List Nat) [TySl P t e sz by_] (H:c8 by_ (ys++zs).length=true) (hzd:zs.map enc=zd:=by exact rfl) (henc:∀a,(enc a).length=sz:=by exact λ_=>rfl) (hfl:∀a,xu (enc a)=true:=by exact λ_=>rfl)
 (hp:xE ob ls=some nob:=by exact rfl) (hd:nlt d N=true:=by exact rfl) (hx:opT sl x= .v (.c (.w o n)):=by exact rfl) (hy:opT sl y= .v (.c c):=by exact rfl) (hn:ys.length=n:=by first|rfl|simp) (hs:Src nob c zd gy:=by first|exact .d|exact .nil|exact .w rfl (by first|rfl|exact lm _|simp)|exact .wn rfl (by first|rfl|exact lm _|simp)) (ho:go nob o=some (.row e sz (ys.map enc) g true):=by exact rfl) (hrv:rsv o=false:=by exact rfl) (hnx:nxt nx=some nx':=by exact rfl):
 NX P N ⟨some d,.call ⟨.builtin .append,#[x,y],#[t,t]⟩,ty,ps,af,gd⟩ ⟨sl,ob,nx⟩ ⟨(d,.v (.c (.d true (.l ((ys++zs).map enc)))))::sl,(nx,.row e sz ((ys++zs).map enc) true false)::ob,nx'⟩
  ⟨⟨d,[(x,.v (.c (.w o n))),(y,.v (.c c))],nob,.v (.c (.d true (.l ((ys++zs).map enc)))),[(nx,.row e sz ((ys++zs).map enc) true false)]⟩,[],some o⟩:=by
 obtain⟨h1,h2,h3,h4,h5,h6⟩:=H5 (P:=P) (N:=N) (t:=t) (x:=x) (y:=y) (enc:=enc) (d:=d) (ty:=ty) (ps:=ps) (af:=af) (gd:=gd) (sl:=sl) (ob:=ob) (nx:=nx) ls H hzd henc hfl hp hd hx hy hn hs ho hrv hnx
 exact⟨Wt (by simp) h1,.inl ⟨rfl,dx hd⟩,h3,h4,pz hnx,rfl⟩
end
theorem gb {o:Nat} {ob:Laa} {vt:TypeId} {cs cs':List C} (ho:go ob o=some (.var vt cs):=by exact rfl) (hj:So j (.d true (.l [])) cs=some cs':=by exact rfl):ea N ⟨sl,ob,nx⟩ ⟨sl,(o,.var vt cs')::ob,nx⟩:=by
 intro cx E a w hR
 refine⟨E,hR.ok,hR.dom,λl x hl=>?_,hR.sl,hR.dfr,hR.size,hR.td⟩
 by_cases e:o=l
 .subst e
  rw[cW] at hl;cases hl
  obtain⟨b,c,arr,h1,h2,h3,h4⟩:=hR.obs o _ ho
  exact⟨b,c,arr,h1,h2,K9 (x:=.d true (.l [])) ⟨none,0,rfl,aai _,.inl rfl⟩ hj h3 h3,h4⟩
 rw[bY _ _ e] at hl;exact hR.obs l x hl
section
variable {P:Program} {N:Nat} {ops:Array Oper} {p:Nat} {o:Oper} {l:List (Nat×Oper)} {dn seg:List Nat} {ys:List Inx} {base:St} {K:St->Prop}
theorem wi {ds:List Nat} {sl':Lab} {ob ob':Laa} {st0 st1 st2:St} (hs:CF ops dn seg ys=true) (hkl:kls ys=ds) (hA:GI ds sl ob=some (sl',ob')) (hb:LK ops (seg++dn) p=true)
 (hw:ea N ⟨sl',ob',nx⟩ st0) (h:BO P N ops o st0 st1) (hw2:ea N st1 st2) {dn':List Nat} (hlo:p::(seg++dn)=dn') (h':DZ P N ops l dn' [] [] st2 st2 K):DZ P N ops ((p,o)::l) dn seg ys base ⟨sl,ob,nx⟩ K:=by
 subst hlo
 exact .inr ⟨hs,hb,_,st0,st1,st2,FZ hkl hA,hw,h,hw2,h'⟩
end
structure KG (q l:Nat) (E:Env) (w:World) (E':Env) (w':World):Prop where
 r:∀o x,o≠q->E.r o=some x->E'.r o=some x
 H:∀g b,E.H g b->E'.H g b
 heap:∀g b,E.H g b->w'.heap[b]?=w.heap[b]?
 T:∀k b,k≠l->E.T k b->E'.T k b/\w'.heap[b]?=w.heap[b]?
 Z:∀b,E.Z b->E'.Z b/\sb w w' b
 n:∀o,o≠q->(E'.n o↔E.n o)
section
variable {q l:Nat} {E E':Env} {w w':World}
theorem Ts (x:KG q l E w E' w'):∀{c:C} {u:Value},c.has q=false->c.hasR l=false->cvC E w c u->cvC E' w' c u
 | .d g d,u,_,_,h=>cT (x.heap g) (x.H g) d u h
 | .w o n,u,ho,_,⟨b,c,h,hu⟩=>⟨b,c,x.r _ _ (jk ho) h,hu⟩
 | .s o sz off len,u,ho,_,⟨A,c,b,k,h,hu⟩=>⟨A,c,b,k,x.r _ _ (jk ho) h,hu⟩
 | .p o k,u,ho,_,⟨b,c,h,hu⟩=>⟨b,c,x.r _ _ (jk ho) h,hu⟩
 | .e o sz i j,u,ho,_,⟨b,c,h,hu⟩=>⟨b,c,x.r _ _ (jk ho) h,hu⟩
 | .q g y j,u,_,_,⟨b,k,hu,hb,h⟩=>⟨b,k,hu,x.H g b hb,rdL_mono (x.heap g) (x.H g) y b k hb h⟩
 | .fn f,u,_,_,h=>h
 | .nil,u,_,_,h=>h
 | .any,u,_,_,_=>trivial
 | .r k d,u,_,hl,h=>cT (λb hb=>(x.T k b (jk hl) hb).2) (λb hb=>(x.T k b (jk hl) hb).1) d u h
 | .z d,u,_,_,h=>vA (λb hb=>(x.Z b hb).2) (λb hb=>(x.Z b hb).1) d u h
 | .zq y j,u,_,_,⟨b,k,hu,hb,h⟩=>⟨b,k,hu,(x.Z b hb).1,rsL_mono (λb hb=>(x.Z b hb).2) (λb hb=>(x.Z b hb).1) y b k hb h⟩
 | .wn o n,u,ho,_,.inl ⟨h1,h2⟩=>.inl ⟨(x.n o (jk ho)).2 h1,h2⟩
 | .wn o n,u,ho,_,.inr ⟨h1,b,c,h,hu⟩=>.inr ⟨λk=>h1 ((x.n o (jk ho)).1 k),b,c,x.r _ _ (jk ho) h,hu⟩
theorem SH (x:KG q l E w E' w'):∀{cs:List C} {us:Lae},Eg q cs=false->Me l cs=false->CV E w cs us->CV E' w' cs us
 |[],[],_,_,_=>trivial
 |c::cs,u::us,h1,h2,h=>by
  simp only[Eg,Me,aao] at h1 h2
  exact⟨Ts x h1.1 h2.1 h.1,SH x h1.2 h2.2 h.2⟩
 |[],_::_,_,_,h=>h.elim
 |_::_,[],_,_,h=>h.elim
theorem Tv (x:KG q l E w E' w') {v:V} (h1:v.has q=false) (h2:v.hasR l=false) (h:cvV E w v u):cvV E' w' v u:=by
 cases v with
 |c c=>exact Ts x h1 h2 h
 |agg cs=>obtain⟨arr,hu,h⟩:=h;exact⟨arr,hu,SH x h1 h2 h⟩
theorem X3 (x:KG q l E w E' w'):∀{cs:List V} {us:Lae},Jc q cs=false->Ki l cs=false->VV E w cs us->VV E' w' cs us
 |[],[],_,_,_=>trivial
 |c::cs,u::us,h1,h2,h=>by
  simp only[Jc,Ki,aao] at h1 h2
  exact⟨Tv x h1.1 h2.1 h.1,X3 x h1.2 h2.2 h.2⟩
 |[],_::_,_,_,h=>h.elim
 |_::_,[],_,_,h=>h.elim
theorem YH (x:KG q l E w E' w') {t:T} (h1:t.has q=false) (h2:t.hasR l=false) (h:cvT E w t u):cvT E' w' t u:=by
 cases t with
 |v v=>exact Tv x h1 h2 h
 |tup ts=>obtain⟨arr,hu,h⟩:=h;exact⟨arr,hu,X3 x h1 h2 h⟩
 |any=>trivial
def Ob.hasR (l:Nat):Ob->Bool
 | .var _ cs=>Me l cs
 | .abs j _=>d0 j l
 |_=>false
theorem Vk (x:KG q l E w E' w') {o:Nat} {ob:Ob} (ho:o≠q) (h1:ob.hasO q=false) (h2:ob.hasR l=false) (hb:∀b c,E.r o=some (b,c)->w'.heap[b]?=w.heap[b]?) (hF:∀b c,E.r o=some (b,c)->¬E.F b->¬E'.F b) (h:de E w o ob):de E' w' o ob:=by
 cases ob with
 |var ty cs=>
  obtain⟨b,c,arr,hr,hh',hc,hf⟩:=h
  exact⟨b,c,arr,x.r _ _ ho hr,(hb b c hr).trans hh',SH x h1 h2 hc,hF b c hr hf⟩
 |row ty sz els g m=>
  obtain⟨b,c,arr,hr,hh',a1,a2,a3,a4,a5,a6,a7⟩:=h
  exact⟨b,c,arr,x.r _ _ ho hr,(hb b c hr).trans hh',a1,a2,a3,a4,cU (x.heap g) (x.H g) (hb b c hr) _ _ a5,λhm=>hF b c hr (a6 hm),λhm=>⟨x.H false b (a7 hm).1,λhg=>x.H true b ((a7 hm).2 hg)⟩⟩
 |rown ty sz els g=>
  rcases h with⟨h0,h1⟩|⟨h0,b,c,arr,hr,hh',a1,a2,a3,a4,a5,a6⟩
  .exact .inl ⟨(x.n o ho).2 h0,h1⟩
  exact .inr ⟨λh=>h0 ((x.n o ho).1 h),b,c,arr,x.r _ _ ho hr,(hb b c hr).trans hh',a1,a2,a3,a4,cU (x.heap g) (x.H g) (hb b c hr) _ _ a5,hF b c hr a6⟩
 |abs j y=>
  rcases h with⟨h0,h1⟩|⟨h0,b,c,hr,a1,a2⟩
  .exact .inl ⟨(x.n o ho).2 h0,h1⟩
  exact .inr ⟨λh=>h0 ((x.n o ho).1 h),b,c,x.r _ _ ho hr,y.st _ _ _ _ _ _ a1 (λk hk=>(x.T j k (jk h2) hk).1) (hb b c hr) (λk hk=>(x.T j k (jk h2) hk).2),hF b c hr a2⟩
end
def De (o:Nat):Laa->Laa
 |[]=>[]
 |(k,x)::r=>bif d0 k o then De o r else(k,x)::De o r
theorem BK {o l:Nat} {x:Ob}:∀{ob:Laa},go (De o ob) l=some x->l≠o/\go ob l=some x
 |[],h=>by cases h
 |(k,y)::r,h=>by
  rw[De] at h
  cases hk:d0 k o with
  |true=>
   rw[hk] at h
   obtain⟨h1,h2⟩:=BK h
   have:=aae hk;subst this
   exact⟨h1,by rw[bY _ _ (Ne.symm h1)];exact h2⟩
  |false=>
   rw[hk] at h
   by_cases e:k=l
   .subst e
    simp only[cond_false] at h
    rw[cW] at h ⊢;exact⟨jk hk,h⟩
   simp only[cond_false] at h
   rw[bY _ _ e] at h ⊢;exact BK h
def okO (q l:Nat):Laa->Bool
 |[]=>true
 |(_,x)::r=>(!x.hasO q&&!x.hasR l)&&okO q l r
theorem UW {q l o:Nat} {x:Ob}:∀{ob:Laa},okO q l ob=true->go ob o=some x->x.hasO q=false/\x.hasR l=false
 |[],_,h=>by cases h
 |(k,y)::r,h0,h=>by
  simp only[okO,v0,aay] at h0
  by_cases e:k=o
  .subst e;rw[cW] at h;cases h;exact h0.1
  rw[bY _ _ e] at h;exact UW h0.2 h
theorem KU {cx cx':Cx} {E':Env} {w':World} {o:Nat} {sl1 sl2:Lab} {ob1:Laa} {y:Ob} (hR:Rel N cx E st a w) (ok':dK cx' E' w') (kg:KG q l E w E' w')
 (h1:qh q st.sl=some sl1) (h2:Ee l sl1=some sl2) (h3:De q (De o st.ob)=ob1) (h4:okO q l ob1=true) (hy:de E' w' o y)
 (hb:∀k b c,k≠q->k≠o->E.r k=some (b,c)->w'.heap[b]?=w.heap[b]?) (hF:∀k b c,k≠q->k≠o->E.r k=some (b,c)->¬E.F b->¬E'.F b) (hdom:∀o x,E'.r o=some x->o<nx') (htd:∀l b,E'.T l b->l<nx'):
 Rel N cx' E' ⟨sl2,(o,y)::ob1,nx'⟩ a w':=by
 subst h3
 refine⟨ok',hdom,λk x hk=>?_,λk=>?_,hR.dfr,hR.size,htd⟩
 .by_cases e:o=k
  .subst e
   rw[cW] at hk;cases hk;exact hy
  rw[bY _ _ e] at hk
  obtain⟨k1,k2⟩:=UW h4 hk
  obtain⟨k3,k4⟩:=BK hk
  obtain⟨k5,k6⟩:=BK k4
  exact Vk kg k3 k1 k2 (λb c hr=>hb k b c k3 k5 hr) (λb c hr=>hF k b c k3 k5 hr) (hR.obs k x k6)
 rcases L3 h2 k with e|⟨e1,e2⟩
 .show cvT E' w' (gt sl2 k) _;rw[e];trivial
 rcases yI h1 k with e|⟨e3,e4⟩
 .show cvT E' w' (gt sl2 k) _;rw[e1,e];trivial
 show cvT E' w' (gt sl2 k) _
 rw[e1,e3]
 exact YH kg e4 (by rw[e3] at e2;exact e2) (hR.sl k)
def nv:Option (Nat×Nat)->Nat->Value
 |none,_=>.slice none 0 0
 |some (k,c),n=>.slice (some ⟨k,0,none⟩) n c
def FB (w:World) (nt:TypeId) (k c:Nat) (xs:List Int):Prop:=(∃arr,w.heap[k]?=some (.cells arr nt (0,0))/\arr.size=c)/\xs.length<=c/\c<=maxLen/\∀j x,xs[j]?=some x->w.cell? ⟨k,j,none⟩=some (.int .i64 x)
def Pp (w:World) (R:Nat->Prop) (nt:TypeId):Option (Nat×Nat)->List Int->Prop
 |none,xs=>xs=[]
 |some (k,c),xs=>R k/\FB w nt k c xs
theorem FB.rd {c:Nat} {xs:List Int} (h:FB w nt k c xs) (F:Nat->Prop):rdLL w F (xs.map eI) k 0:=by
 refine wP (sz:=1) (by simp[eI]) λi e hi=>?_
 rw[aaI] at hi
 cases hx:xs[i]? with
 |none=>rw[hx] at hi;cases hi
 |some x=>
  rw[hx] at hi;cases hi
  rw[eI,rdL,rdL]
  exact⟨⟨_,by simpa using h.2.2.2 i x hx,by rw[rdD]⟩,trivial⟩
theorem FB.of {c:Nat} {xs:List Int} {F:Nat->Prop} {arr:Array Value} (hh:w.heap[k]?=some (.cells arr nt (0,0))) (ha:arr.size=c*1) (hl:(xs.map eI).length<=c) (hc:c<=maxLen) (h:rdLL w F (xs.map eI) k 0):FB w nt k c xs:=by
 refine⟨⟨arr,hh,by omega⟩,by simpa using hl,hc,λj x hx=>?_⟩
 have:=rA (sz:=1) (i:=j) (e:=eI x) h (by simp[eI]) (by rw[aaI,hx];rfl)
 rw[eI,rdL] at this
 obtain⟨u,h1,h2⟩:=this.1
 rw[rdD] at h2;subst h2
 simpa using h1
theorem FB.keep {w':World} {c:Nat} {xs:List Int} (h:FB w nt k c xs) (hk:w'.heap[k]?=w.heap[k]?):FB w' nt k c xs:=by
 obtain⟨⟨arr,h1,h2⟩,h3,h4,h5⟩:=h
 exact⟨⟨arr,hk.trans h1,h2⟩,h3,h4,λj x hx=>(wb hk).trans (h5 j x hx)⟩
theorem Pp.keep {w':World} {R R':Nat->Prop} {h:Option (Nat×Nat)} {xs:List Int} (hn:Pp w R nt h xs) (hR:∀k c,h=some (k,c)->R k->R' k) (hk:∀k c,h=some (k,c)->R k->w'.heap[k]?=w.heap[k]?):Pp w' R' nt h xs:=by
 cases h with
 |none=>exact hn
 |some p=>exact⟨hR _ _ rfl hn.1,hn.2.keep (hk _ _ rfl hn.1)⟩
def Hid.loc (nt:TypeId) (A:Option Addr) (n c:Nat) (xs:List Int):Hid where
 nl:=A=none/\n=0/\c=0/\xs=[]
 S:=λb k R w=>A=some ⟨b,0,none⟩/\c=k/\n=xs.length/\FB w nt b k xs
 st:=by
  rintro b c' R R' w w' ⟨h1,h2,h3,h4⟩ hR hb hk
  exact⟨h1,h2,h3,h4.keep hb⟩
abbrev NR:=Option (Nat×Option Addr×Nat×Nat)
def A0:NR->Nat->Bool
 |none,_=>false
 |some (j,_),i=>d0 j i
structure CxS (ty nt:TypeId) (els:List (Int×List Int)) (ho:NR) (b c:Nat) (R:Nat->Prop) (w:World) (hd:Nat->Option (Nat×Nat)):Prop where
 blk:∃arr,w.heap[b]?=some (.cells arr ty (0,0))/\arr.size=c*2
 len:els.length<=c
 cap:c<=maxLen
 a:∀i e,els[i]?=some e->w.cell? ⟨b,i*2,none⟩=some (.int .i64 e.1)
 s:∀i e,els[i]?=some e->A0 ho i=false->w.cell? ⟨b,i*2+1,none⟩=some (nv (hd i) e.2.length)
 ne:∀i e,els[i]?=some e->A0 ho i=false->Pp w R nt (hd i) e.2
 inj:∀i j k c c',i<els.length->j<els.length->A0 ho i=false->A0 ho j=false->hd i=some (k,c)->hd j=some (k,c')->i=j
 h:∀i A n k,ho=some (i,A,n,k)->w.cell? ⟨b,i*2+1,none⟩=some (.slice A n k)
def Hid.cx (ty nt:TypeId) (els:List (Int×List Int)) (ho:NR):Hid where
 nl:=els=[]
 S:=λb c R w=>∃hd,CxS ty nt els ho b c R w hd
 st:=by
  rintro b c R R' w w' ⟨hd,h⟩ hR hb hk
  obtain⟨⟨arr,h1,h2⟩,h3,h4,h5,h6,h7,h8,h9⟩:=h
  exact⟨hd,⟨arr,hb.trans h1,h2⟩,h3,h4,λi e hi=>(wb hb).trans (h5 i e hi),λi e hi hh=>(wb hb).trans (h6 i e hi hh),λi e hi hh=>(h7 i e hi hh).keep (λk _ _ hk=>hR k hk) (λk _ _ h=>hk k h),h8,λi A n k hh=>(wb hb).trans (h9 i A n k hh)⟩
abbrev Ob.cxo (o:Nat) (ty nt:TypeId) (els:List (Int×List Int)) (ho:NR):Ob:=.abs o (Hid.cx ty nt els ho)
section
variable {P:Program} {d:Option Tmp} {tt:TypeId} {ps:String} {af:Array Edge} {gd:Option (Nat×Bool)} {x y:Operand}
theorem Fh {o:Nat} {els:List (Int×List Int)} {ho:NR} {e:Int×List Int} (he:els[i]?=some e) (h:de E w o (.cxo o ty nt els ho)):
 ¬E.n o/\∃b c hd,E.r o=some (b,c)/\CxS ty nt els ho b c (E.T o) w hd/\¬E.F b:=by
 rcases h with⟨_,h1⟩|⟨h0,b,c,hr,⟨hd,h1⟩,h2⟩
 .have h1:els=[]:=h1
  subst h1;simp at he
 exact⟨h0,b,c,hd,hr,h1,h2⟩
theorem RQ {o:Nat} {els:List (Int×List Int)} {ho:NR} {e:Int×List Int} [TySc P t] (he:els[i]?=some e) (hh:A0 ho i=false):
 AWN P ⟨d,.load t x,tt,ps,af,gd⟩ [(x,.v (.c (.e o 2 i 1)))] [(o,.cxo o ty nt els ho)] (.v (.c (.r o (.l (e.2.map eI))))) []:=
 cH λE ac w hn hb=>by
  obtain⟨b,c',hr,hu⟩:=hn x _ (.head _)
  obtain⟨_,b',c'',hd,hr',hS,_⟩:=Fh he (hb o _ (.head _))
  rw[hr] at hr';cases hr'
  refine⟨nv (hd i) e.2.length,by simp[execOp,hu,na (P:=P) (t:=t) (hS.s i e he hh)],?_⟩
  have hne:=hS.ne i e he hh
  show rdD w (E.T o) (.l (e.2.map eI)) _
  cases hdi:hd i with
  |none=>
   rw[hdi] at hne
   have hne:e.2=[]:=hne
   rw[hne];exact⟨none,0,rfl,aai _,.inl rfl⟩
  |some p=>
   obtain⟨k,cc⟩:=p
   rw[hdi] at hne
   exact⟨some ⟨k,0,none⟩,cc,by simp[nv],by simpa using hne.2.2.1,.inr ⟨k,0,rfl,hne.1,hne.2.rd _⟩⟩
theorem MD {o:Nat} {els:List (Int×List Int)} {A:Option Addr} {e:Int×List Int} [TySc P t] (he:els[i]?=some e):
 AWN P ⟨d,.load t x,tt,ps,af,gd⟩ [(x,.v (.c (.e o 2 i 1)))] [(o,.cxo o ty nt els (some (i,A,n,k)))] (.v (.c (.d false (.k A n k)))) []:=
 cH λE ac w hn hb=>by
  obtain⟨b,c',hr,hu⟩:=hn x _ (.head _)
  obtain⟨_,b',c'',hd,hr',hS,_⟩:=Fh he (hb o _ (.head _))
  rw[hr] at hr';cases hr'
  exact⟨.slice A n k,by simp[execOp,hu,na (P:=P) (t:=t) (hS.h i A n k rfl)],by show rdD _ _ _ _;rw[rdD]⟩
end
section
variable {P:Program} {N:Nat} {d:Tmp} {tt:TypeId} {ps:String} {af:Array Edge} {gd:Option (Nat×Bool)} {x y:Operand} {sl sl1 sl2:Lab} {ob ob1:Laa} {nx:Nat}
theorem VJ {c:C} {ys:Lad} {h:Hid} {z:Ob} (hs:Src nob c ys g) (hq:go nob q=some (.abs l h)):Src ((q,z)::nob) c ys g:=by
 cases hs with
 |d=>exact .d
 |nil=>exact .nil
 |w h1 hn=>exact .w (by rw[bY _ _ (λe=>by simp_all)];exact h1) hn
 |s h1 hn=>exact .s (by rw[bY _ _ (λe=>by simp_all)];exact h1) hn
 |wn h1 hn=>exact .wn (by rw[bY _ _ (λe=>by simp_all)];exact h1) hn
theorem Ko {nt p c:Nat} {xs:List Int} {ys:Lad} {cc:C} [ht:TySl P t nt 1 by_] (hrv:rsv q=false)
 (ho:go nob q=some (.abs l (Hid.loc nt (some ⟨k,0,none⟩) n c xs))) (hs:Src nob cc ys gy) (hn:xs.length=n) (hsz:∀e∈ys,e.length=1) (hb:(n+ys.length)*by_<=140737488355328) (h63:n+ys.length<=9223372036854775807):
 AWK P ⟨some d,.call ⟨.builtin .append,#[x,y],#[t,t]⟩,tt,ps,af,gd⟩ [(x,.v (.c (.d false (.k (some ⟨k,0,none⟩) n c)))),(y,.v (.c cc))] nob (.v (.c (.w p (n+ys.length)))) [(p,.row nt 1 (xs.map eI++ys) (true&&gy) true)] [] (some q):=by
 intro cx E a w ok hne hnob hfr
 have hq:=hnob q _ (AZ ho)
 rcases hq with⟨_,h1⟩|⟨_,b,c',hr,⟨h1,h2,h3,⟨⟨arr,h4,h5⟩,h6,h7,h8⟩⟩,hF⟩
 .have h1:some (⟨k,0,none⟩:Addr)=none/\_:=h1
  cases h1.1
 cases h1
 subst h2
 have hrow:de E w q (.row nt 1 (xs.map eI) true true):=⟨k,c,arr,hr,h4,by omega,by grind,h7,by simp[eI],FB.rd ⟨⟨arr,h4,h5⟩,h6,h7,h8⟩ _,λ_=>hF,λh=>by cases h⟩
 refine Mq (P:=P) (d:=d) (ty:=tt) (ps:=ps) (af:=af) (gd:=gd) (x:=x) (y:=y) (t:=t) (e:=nt) (sz:=1) (by_:=by_) (o:=q) (q:=p) (n:=n) (els:=xs.map eI) (g:=true) (nob:=(q,.row nt 1 (xs.map eI) true true)::nob) hrv (cW _ _ _) (VJ hs ho) (by grind) hsz hb h63 cx E a w ok (λx' t' hm=>?_) (λl' ob' hm=>?_) hfr
 .rcases aaf.1 hm with e|hm
  .cases e
   have:=hne x _ (.head _)
   have:a.eval x= .slice (some ⟨k,0,none⟩) n c:=this
   exact⟨k,c,hr,this⟩
  grind
 grind
theorem apk {nt c:Nat} {xs zs:List Int} {cc:C} (ls:List Nat) [TySl P t nt 1 by_] (H:c8 by_ (xs++zs).length=true) (hzd:zs.map eI=zd) (hn:xs.length=n)
 (hp:xE ob ls=some nob) (hs:Src nob cc zd true) (hd:nlt d N=true) (hx:opT sl x= .v (.c (.d false (.k (some ⟨k,0,none⟩) n c)))) (hy:opT sl y= .v (.c cc)) (ho:go nob q=some (.abs l (Hid.loc nt (some ⟨k,0,none⟩) n c xs))) (hrv:rsv q=false) (hnx:nxt nx=some nx'):
 NX P N ⟨some d,.call ⟨.builtin .append,#[x,y],#[t,t]⟩,tt,ps,af,gd⟩ ⟨sl,ob,nx⟩ ⟨(d,.v (.c (.w nx (xs++zs).length)))::sl,(nx,.row nt 1 ((xs++zs).map eI) true true)::ob,nx'⟩
  ⟨⟨d,[(x,.v (.c (.d false (.k (some ⟨k,0,none⟩) n c)))),(y,.v (.c cc))],nob,.v (.c (.w nx (xs++zs).length)),[(nx,.row nt 1 ((xs++zs).map eI) true true)]⟩,[],some q⟩:=by
 subst hzd
 simp only[c8,decide_eq_true_eq,aav] at H
 have:=Ko (P:=P) (d:=d) (tt:=tt) (ps:=ps) (af:=af) (gd:=gd) (x:=x) (y:=y) (t:=t) (nt:=nt) (by_:=by_) (p:=nx) (n:=n) hrv ho hs hn (by simp[eI]) (by simp_all) (by simp_all)
 rw[<-abc,aaz,<-hn,<-aav] at this
 exact⟨by simp_all,.inl ⟨rfl,dx hd⟩,⟨hx,hy,trivial⟩,vw hp,pz hnx,rfl⟩
theorem apNk {nt:Nat} {zs:List Int} {cc:C} (ls:List Nat) [TySl P t nt 1 by_] (H:c8 by_ zs.length=true) (hne:zs≠[]) (hzd:zs.map eI=zd)
 (hp:xE ob ls=some nob) (hs:Src nob cc zd true) (hd:nlt d N=true) (hx:opT sl x= .v (.c (.d false (.k none 0 0)))) (hy:opT sl y= .v (.c cc)) (hnx:nxt nx=some nx'):
 NS P N ⟨some d,.call ⟨.builtin .append,#[x,y],#[t,t]⟩,tt,ps,af,gd⟩ ⟨sl,ob,nx⟩ ⟨(d,.v (.c (.w nx zs.length)))::sl,(nx,.row nt 1 (zs.map eI) true true)::ob,nx'⟩
  ⟨d,[(x,.v (.c (.d false (.k none 0 0)))),(y,.v (.c cc))],nob,.v (.c (.w nx zs.length)),[(nx,.row nt 1 (zs.map eI) true true)]⟩:=by
 subst hzd
 simp only[c8,decide_eq_true_eq] at H
 have h1:=KC (P:=P) (d:=d) (ty:=tt) (ps:=ps) (af:=af) (gd:=gd) (x:=x) (y:=y) (t:=t) (e:=nt) (sz:=1) (by_:=by_) (q:=nx) hs (by simp_all) (by simp[eI]) (by simp_all) (by simp_all)
 rw[aaz] at h1
 refine⟨λcx E a w ok hnd hnob hfr=>h1 cx E a w ok (λx' t' hm=>?_) hnob hfr,rfl,dx hd,⟨hx,hy,trivial⟩,vw hp,pz hnx,rfl⟩
 rcases aaf.1 hm with e|hm
 .cases e
  have h:a.eval x= .slice none 0 0:=hnd x (.v (.c (.d false (.k none 0 0)))) (.head _)
  exact h
 simp_all
end
section
variable {P:Program} {N:Nat} {d:Tmp} {tt:TypeId} {ps:String} {af:Array Edge} {gd:Option (Nat×Bool)} {x y:Operand} {sl sl1 sl2:Lab} {ob ob1:Laa} {nx:Nat} {AQ:Exit->St->Prop}
theorem MJ {o:Nat} {els:List (Int×List Int)} {hole:NR} {e:Int×List Int} {ys:List Int} [ht:TyN P t 1] (hx:opT sl x= .v (.c (.e o 2 i 1))) (hy:opT sl y= .v (.c (.w s n))) (ho:go ob o=some (.cxo o ty nt els hole)) (hs:go ob s=some (.row nt 1 (ys.map eI) g true))
 (hn:ys.length=n) (he:els[i]?=some e) (hh:hole=none\/∃A n k,hole=some (i,A,n,k)) (hrv:rsv s=false) (hso:d0 s o=false) (hol:nlt o nx=true) (h1:qh s sl=some sl1) (h2:Ee s sl1=some sl2) (h3:De s (De o ob)=ob1) (h4:okO s s ob1=true):
 AWO P N ⟨none,.store t x y,tt,ps,af,gd⟩ ⟨sl,ob,nx⟩ ⟨sl2,(o,.cxo o ty nt (els.set i (e.1,ys)) none)::ob1,nx⟩:=by
 intro cx E a w hR
 have hx1:=hR.op x;rw[hx] at hx1
 have hy1:=hR.op y;rw[hy] at hy1
 have ok:=hR.ok
 obtain⟨b,c,hr,hu⟩:=hx1
 obtain⟨hnn,b',c',hd,hr',hS,hF⟩:=Fh he (hR.obs o _ ho)
 rw[hr] at hr';cases hr'
 obtain⟨bs,cs,hrs,hv⟩:=hy1
 obtain⟨bs',cs',arrs,hrs',hhs,has,hls,hcs,_,hrds,hFs,_⟩:=hR.obs s _ hs
 rw[hrs] at hrs';cases hrs'
 have hFs:=hFs rfl
 have hso:s≠o:=jk hso
 have hbb:bs≠b:=λe=>by subst e;exact hso (ok.inj _ _ _ _ _ hrs hr)
 have hil:i<els.length:=(aab.1 he).1
 have hrow:=FB.of hhs has hls hcs hrds
 obtain⟨arr,hh0,ha0⟩:=hS.blk
 have hvc:(a.eval y).cells= #[a.eval y]:=by rw[hv];rfl
 have hbound:i*2+1+1<=arr.size:=by have:=hS.len;omega
 have hrun:=ux (P:=P) (t:=t) (n:=1) (k:=i*2+1) (u:=a.eval y) (w:=w) (b:=b) (by rw[hvc];rfl) (by rw[hvc];simp;rw[hv];rfl) hh0 hbound
 unfold Oper.wp
 simp only[execOp,hu,Sem.run_bind,hrun,Result.andThen_ok,Sem.run_pure,Oper.upon_skip,Act.put]
 obtain⟨arr',harr'⟩:∃arr',arr'=(arr.toList.take (i*2+1)++(a.eval y).cells.toList++arr.toList.drop (i*2+1+1)).toArray:=⟨_,rfl⟩
 rw[<-harr']
 have hsz':arr'.size=arr.size:=by rw[harr',hvc];simp;omega
 have hget:∀j,arr'[j]?=if j=i*2+1 then some (a.eval y) else arr[j]?:=by
  intro j
  rw[harr',abK,mL (by rw[hvc];rfl) oaa,hvc]
  by_cases hj:j=i*2+1
  .simp_all
  grind
 have hw':=i8 arr' hh0
 have hcell:∀j,j≠i*2+1->(w.setRow b arr').cell? ⟨b,j,none⟩=w.cell? ⟨b,j,none⟩:=λj hj=>by rw[eX hw',eX hh0,hget,if_neg hj]
 have ok1:dK cx E (w.setRow b arr'):=BN ok hr hF
 have hk:=jQ (cs:=arr') (w:=w) ok hr hF
 have hTb:∀l k,E.T l k->k≠b:=λl k h e=>by subst e;exact(ok.sf.tb l k h).2.2.1 o c hr
 have hTs:∀l,¬E.T l bs:=λl h=>(ok.sf.tb l bs h).2.2.1 s cs hrs
 have hsb:=ok1.rb s bs cs hrs
 have hnew:cx.w0.heap.size<=bs:=hsb.2.resolve_right (λh=>by simp_all)
 obtain⟨E',hE'⟩:∃E':Env,E'={E with r:=λl=>if l=s then none else E.r l,T:=λl k=>E.T l k\/(l=o/\k=bs)}:=⟨_,rfl⟩
 have e_r:∀l p,E'.r l=some p↔l≠s/\E.r l=some p:=λl p=>by
  simp_all
 have e_T:∀l k,E'.T l k↔E.T l k\/(l=o/\k=bs):=λl k=>by simp_all
 have e_F:E'.F=E.F:=by subst hE';rfl
 have e_G:E'.G=E.G:=by subst hE';rfl
 have e_Z:E'.Z=E.Z:=by subst hE';rfl
 have e_n:E'.n=E.n:=by subst hE';rfl
 have e_H:∀g,E'.H g=E.H g:=λg=>by cases g;exact e_F;exact e_G
 have ok':dK cx E' (w.setRow b arr'):=by
  refine⟨by rw[e_F];exact ok1.fb,by rw[e_F,e_G];exact ok1.gf,by rw[e_G];exact ok1.gn,λl b c h=>ok1.rb l b c ((e_r _ _).1 h).2,λl l' b c c' h h'=>ok1.inj l l' b c c' ((e_r _ _).1 h).2 ((e_r _ _).1 h').2,ok1.os,ok1.tape,ok1.output,ok1.size,ok1.block,λl p hp h=>ok1.pin l p hp ((e_r _ _).1 h).2,by rw[e_F];exact ok1.ff,by rw[e_F];exact ok1.gc,⟨λl k h=>?_,λl l' k h h'=>?_,λk h=>?_,ok1.sf.zs,by rw[e_Z];exact ok1.sf.ze⟩⟩
  .rcases(e_T l k).1 h with h|⟨rfl,rfl⟩
   .obtain⟨h1,h2,h3,h4⟩:=ok1.sf.tb l k h
    simp_all
   refine⟨⟨hsb.1,hnew⟩,by simp_all,λo' c' h'=>?_,.mk (by rw[d7 _ _ _ _ hbb];exact hhs)⟩
   obtain⟨h5,h6⟩:=(e_r _ _).1 h'
   exact h5 (ok.inj _ _ _ _ _ h6 hrs)
  .rcases(e_T l k).1 h with h|⟨rfl,rfl⟩<;>rcases(e_T l' k).1 h' with h'|⟨rfl,h'⟩
   .exact ok1.sf.tt l l' k h h'
   .simp_all
   .simp_all
   rfl
  obtain⟨h1,h2,h3,h4⟩:=ok1.sf.zc k h
  simp_all
 have kg:KG s s E w E' (w.setRow b arr'):=⟨λl p hl h=>(e_r _ _).2 ⟨hl,h⟩,λg k h=>by rw[e_H];exact h,λg k h=>hk.heap g k h,λl k _ h=>⟨(e_T l k).2 (.inl h),(hk.T l k h).2⟩,λk h=>⟨by simp_all,(hk.Z k h).2⟩,λl _=>by rw[e_n]⟩
 refine⟨E',KU hR ok' kg h1 h2 h3 h4 ?_ (λl b' c' hl hlo hrl=>d7 _ _ _ _ (λe=>by subst e;exact hlo (ok.inj _ _ _ _ _ hrl hr))) (λl b' c' _ _ _ hf=>by simp_all) (λl p h=>hR.dom l p ((e_r _ _).1 h).2) (λl k h=>?_)⟩
 .refine .inr ⟨by simp_all,b,c,(e_r _ _).2 ⟨Ne.symm hso,hr⟩,⟨λj=>if j=i then some (bs,cs) else hd j,⟨arr',hw',by omega⟩,by simpa using hS.len,hS.cap,λj ej hj=>?_,λj ej hj _=>?_,λj ej hj _=>?_,λj j' k c1 c2 hj hj' _ _ q1 q2=>?_,λ_ _ _ _ h=>by cases h⟩,by simp_all⟩
  .rw[hcell _ oaa]
   rw[abJ] at hj
   by_cases e1:i=j
   .subst e1
    rw[if_pos rfl,if_pos hil] at hj;cases hj
    exact hS.a i e he
   rw[if_neg e1] at hj;exact hS.a j ej hj
  .rw[abJ] at hj
   by_cases e1:i=j
   .subst e1
    rw[if_pos rfl,if_pos hil] at hj;cases hj
    rw[eX hw',hget,if_pos rfl,if_pos rfl,hv,hn];rfl
   rw[if_neg e1] at hj
   rw[hcell _ oaa,if_neg (Ne.symm e1)]
   refine hS.s j ej hj ?_
   rcases hh with rfl|⟨A,n',k',rfl⟩
   .rfl
   exact uC e1
  .rw[abJ] at hj
   by_cases e1:i=j
   .subst e1
    rw[if_pos rfl,if_pos hil] at hj;cases hj
    rw[if_pos rfl]
    exact⟨(e_T o bs).2 (.inr ⟨rfl,rfl⟩),hrow.keep (d7 _ _ _ _ hbb)⟩
   rw[if_neg e1] at hj
   rw[if_neg (Ne.symm e1)]
   refine(hS.ne j ej hj ?_).keep (λk c' _ hk'=>(e_T o k).2 (.inl hk')) (λk c' _ hk'=>d7 _ _ _ _ (hTb o k hk'))
   rcases hh with rfl|⟨A,n',k',rfl⟩
   .rfl
   exact uC e1
  have hole_ne:∀j,j≠i->A0 hole j=false:=λj hj=>by
   rcases hh with rfl|⟨A,n',k',rfl⟩
   .rfl
   exact uC (Ne.symm hj)
  have hR':∀j,j≠i->j<els.length->∀k c',hd j=some (k,c')->E.T o k:=λj hj hjl k c' hdj=>by
   have:=hS.ne j _ (List.getElem?_eq_getElem hjl) (hole_ne j hj)
   rw[hdj] at this
   exact this.1
  have hj:j<els.length:=by simpa using hj
  have hj':j'<els.length:=by simpa using hj'
  by_cases e1:j=i<;>by_cases e2:j'=i
  .rw[e1,e2]
  .grind
  .grind
  rw[if_neg e1] at q1;rw[if_neg e2] at q2
  exact hS.inj j j' k c1 c2 hj hj' (hole_ne j e1) (hole_ne j' e2) q1 q2
 rcases(e_T l k).1 h with h|⟨rfl,_⟩
 .exact hR.td l k h
 exact dx hol
end
section
variable {P:Program} {N:Nat} {sl sl1 sl2:Lab} {ob ob1:Laa} {nx:Nat} {AQ:Exit->St->Prop}
theorem Xx {cx:Cx} {o:Nat} {z:Ob} (hR:Rel N cx E ⟨sl,ob,nx⟩ a w) (hz:de E w o z):Rel N cx E ⟨sl,(o,z)::ob,nx⟩ a w:=
 ⟨hR.ok,hR.dom,λl x h=>by
  by_cases e:o=l
  .subst e;rw[cW] at h;simp_all
  rw[bY _ _ e] at h;exact hR.obs l x h,hR.sl,hR.dfr,hR.size,hR.td⟩
theorem LI {c:Code} {o:Nat} {els:List (Int×List Int)} {e:Int×List Int} (ho:go ob o=some (.cxo o ty nt els none)) (he:els[i]?=some e) (hol:nlt o nx=true) (hrv:rsv nx=false)
 (h1:qh nx sl=some sl1) (h2:Ee o sl1=some sl2) (h3:De nx (De o ob)=ob1) (h4:okO nx o ob1=true)
 (hnil:e.2=[]->AWC P N c ⟨sl2,(o,.cxo o ty nt els (some (i,none,0,0)))::ob1,nx⟩ AQ)
 (hcons:∀k cc,AWC P N c ⟨sl2,(nx,.abs nx (Hid.loc nt (some ⟨k,0,none⟩) e.2.length cc e.2))::(o,.cxo o ty nt els (some (i,some ⟨k,0,none⟩,e.2.length,cc)))::ob1,nx+1⟩ AQ):AWC P N c ⟨sl,ob,nx⟩ AQ:=by
 intro cx E a w hR
 have ok:=hR.ok
 obtain⟨hnn,b,cb,hd,hr,hS,hF⟩:=Fh he (hR.obs o _ ho)
 have hil:i<els.length:=(aab.1 he).1
 have hs0:=hS.s i e he rfl
 have hn0:=hS.ne i e he rfl
 cases hdi:hd i with
 |none=>
  rw[hdi] at hs0 hn0
  refine hnil hn0 cx E a w (KU hR ok ⟨λ_ _ _ h=>h,λ_ _ h=>h,λ_ _ _=>rfl,λ_ _ _ h=>⟨h,rfl⟩,λb _=>⟨by assumption,sb.refl w b⟩,λ_ _=>Iff.rfl⟩ h1 h2 h3 h4 (.inr ⟨hnn,b,cb,hr,⟨hd,hS.blk,hS.len,hS.cap,hS.a,λj ej hj _=>hS.s j ej hj rfl,λj ej hj _=>hS.ne j ej hj rfl,λj j' k c1 c2 hj hj' _ _=>hS.inj j j' k c1 c2 hj hj' rfl rfl,λj A n k h=>?_⟩,hF⟩) (λ_ _ _ _ _ _=>rfl) (λ_ _ _ _ _ _ h=>h) hR.dom hR.td)
  cases h
  exact hs0
 |some p=>
  obtain⟨k,cc⟩:=p
  rw[hdi] at hs0 hn0
  obtain⟨hTk,hrow⟩:=hn0
  obtain⟨t1,t2,t3,t4⟩:=ok.sf.tb o k hTk
  obtain⟨E',hE'⟩:∃E':Env,E'={E with r:=λl=>if l=nx then some (k,cc) else E.r l,T:=λl j=>E.T l j/\j≠k,n:=λl=>l≠nx/\E.n l}:=⟨_,rfl⟩
  have e_r:∀l p,E'.r l=some p↔(l=nx/\p=(k,cc))\/(l≠nx/\E.r l=some p):=λl p=>by
   subst hE'
   grind
  have e_T:∀l j,E'.T l j↔E.T l j/\j≠k:=λl j=>by simp_all
  have e_F:E'.F=E.F:=by subst hE';rfl
  have e_G:E'.G=E.G:=by subst hE';rfl
  have e_Z:E'.Z=E.Z:=by subst hE';rfl
  have e_n:∀l,E'.n l↔l≠nx/\E.n l:=λl=>by simp_all
  have e_H:∀g,E'.H g=E.H g:=λg=>by cases g;exact e_F;exact e_G
  have hnx:∀l p,E.r l=some p->l≠nx:=λl p h=>abT (hR.dom l p h)
  have hon:o≠nx:=abT (dx hol)
  have ok':dK cx E' w:=by
   refine⟨by rw[e_F];exact ok.fb,by rw[e_F,e_G];exact ok.gf,by rw[e_G];exact ok.gn,λl j c h=>?_,λl l' j c c' h h'=>?_,ok.os,ok.tape,ok.output,ok.size,ok.block,λl p hp h=>?_,by rw[e_F];exact ok.ff,by rw[e_F];exact ok.gc,⟨λl j h=>?_,λl l' j h h'=>ok.sf.tt l l' j ((e_T _ _).1 h).1 ((e_T _ _).1 h').1,λj h=>?_,ok.sf.zs,by rw[e_Z];exact ok.sf.ze⟩⟩
   .rcases(e_r _ _).1 h with⟨rfl,hp⟩|⟨_,h⟩
    .simp_all
    exact ok.rb l j c h
   .rcases(e_r _ _).1 h with⟨rfl,hp⟩|⟨q1,h⟩<;>rcases(e_r _ _).1 h' with⟨rfl,hp'⟩|⟨q2,h'⟩
    .rfl
    .simp_all
    .simp_all
    exact ok.inj l l' j c c' h h'
   .rcases(e_r _ _).1 h with⟨rfl,hp'⟩|⟨_,h⟩
    .rw[rC hrv] at hp;cases hp
    exact ok.pin l p hp h
   .obtain⟨h,hj⟩:=(e_T _ _).1 h
    obtain⟨u1,u2,u3,u4⟩:=ok.sf.tb l j h
    simp_all
   obtain⟨u1,u2,u3,u4⟩:=ok.sf.zc j h
   grind
  have kg:KG nx o E w E' w:=⟨λl p hl h=>(e_r _ _).2 (.inr ⟨hl,h⟩),λg j h=>by rw[e_H];exact h,λ_ _ _=>rfl,λl j hl h=>⟨(e_T _ _).2 ⟨h,λe=>by subst e;exact hl (ok.sf.tt l o j h hTk)⟩,rfl⟩,λj h=>⟨by simp_all,sb.refl w j⟩,λl hl=>by simp_all⟩
  refine hcons k cc cx E' a w (Xx (KU hR ok' kg h1 h2 h3 h4 (.inr ⟨by simp_all,b,cb,(e_r _ _).2 (.inr ⟨hon,hr⟩),⟨hd,hS.blk,hS.len,hS.cap,hS.a,λj ej hj _=>hS.s j ej hj rfl,λj ej hj hjh=>(hS.ne j ej hj rfl).keep (λk' c' hk' hT=>(e_T o k').2 ⟨hT,λek=>?_⟩) (λ_ _ _ _=>rfl),λj j' k c1 c2 hj hj' _ _=>hS.inj j j' k c1 c2 hj hj' rfl rfl,λj A n k' h=>?_⟩,by simp_all⟩)
   (λ_ _ _ _ _ _=>rfl) (λl b' c' _ _ _ h=>by simp_all) (λl p h=>?_) (λl j h=>abS (hR.td l j ((e_T _ _).1 h).1))) (.inr ⟨by simp_all,k,cc,(e_r _ _).2 (.inl ⟨rfl,rfl⟩),⟨rfl,rfl,rfl,hrow⟩,by simp_all⟩))
  .subst ek
   have:=hS.inj j i k' c' cc (aab.1 hj).1 hil rfl rfl hk' hdi
   subst this
   simp[A0] at hjh
  .cases h;exact hs0
  rcases(e_r _ _).1 h with⟨rfl,_⟩|⟨_,h⟩
  .omega
  exact abS (hR.dom l p h)
theorem XZ {o:Nat} {al:List Int} (ho:go ob o=some (.rown ty 2 (al.map λa=>[.i .i64 a,.k none 0 0]) g)) (h3:De o ob=ob1):ea N ⟨sl,ob,nx⟩ ⟨sl,(o,.cxo o ty nt (al.map λa=>(a,[])) none)::ob1,nx⟩:=by
 subst h3
 intro cx E a w hR
 refine⟨E,hR.ok,hR.dom,λl x h=>?_,hR.sl,hR.dfr,hR.size,hR.td⟩
 by_cases e:o=l
 .subst e
  rw[cW] at h;cases h
  rcases hR.obs o _ ho with⟨h0,h1⟩|⟨h0,b,c,arr,hr,hh,h1,h2,h3,h4,h5,h6⟩
  .refine .inl ⟨h0,?_⟩
   show al.map _=[]
   simp_all
  have key:∀i e,(al.map λa=>((a,[]):Int×List Int))[i]?=some e->w.cell? ⟨b,i*2,none⟩=some (.int .i64 e.1)/\w.cell? ⟨b,i*2+1,none⟩=some (.slice none 0 0)/\e.2=[]:=by
   intro i e hi
   rw[aaI] at hi
   cases ha:al[i]? with
   |none=>simp_all
   |some x=>
    rw[ha] at hi;cases hi
    have:=rA (sz:=2) (i:=i) (e:=[.i .i64 x,.k none 0 0]) h5 h4 (by simp_all)
    rw[rdL,rdL] at this
    obtain⟨⟨u,u1,u2⟩,⟨v,v1,v2⟩,_⟩:=this
    simp only[rdD] at u2 v2
    simp_all
  refine .inr ⟨h0,b,c,hr,⟨λ_=>none,⟨arr,hh,h1⟩,by simp_all,h3,λi e hi=>(key i e hi).1,λi e hi _=>?_,λi e hi _=>(key i e hi).2.2,λ_ _ _ _ _ _ _ _ _ h=>(by cases h),λ_ _ _ _ h=>(by cases h)⟩,h6⟩
  rw[(key i e hi).2.2];exact(key i e hi).2.1
 rw[bY _ _ e] at h
 exact hR.obs l x (BK h).2
def TR (e:Int×List Int):List D:=[.i .i64 e.1,.l (e.2.map eI)]
theorem Pj {o:Nat} {els:List (Int×List Int)} (ho:go ob o=some (.cxo o ty nt els none)) (h1:qh nx sl=some sl1) (h2:Ee o sl1=some sl2) (h3:De nx (De o ob)=ob1) (h4:okO nx o ob1=true):
 ea N ⟨sl,ob,nx⟩ ⟨sl2,(o,.rown ty 2 (els.map TR) true)::ob1,nx⟩:=by
 intro cx E a w hR
 have ok:=hR.ok
 obtain⟨E',hE'⟩:∃E':Env,E'={E with F:=λj=>E.F j\/E.T o j,G:=λj=>E.G j\/E.T o j,T:=λl j=>l≠o/\E.T l j}:=⟨_,rfl⟩
 have e_T:∀l j,E'.T l j↔l≠o/\E.T l j:=λl j=>by simp_all
 have e_F:∀j,E'.F j↔E.F j\/E.T o j:=λj=>by simp_all
 have e_G:∀j,E'.G j↔E.G j\/E.T o j:=λj=>by simp_all
 have e_r:E'.r=E.r:=by subst hE';rfl
 have e_Z:E'.Z=E.Z:=by subst hE';rfl
 have e_n:E'.n=E.n:=by subst hE';rfl
 have ok':dK cx E' w:=by
  refine⟨λj h=>?_,λj h=>?_,λj h=>?_,by rw[e_r];exact ok.rb,by rw[e_r];exact ok.inj,ok.os,ok.tape,ok.output,ok.size,ok.block,by rw[e_r];exact ok.pin,λj h=>?_,λj h h'=>?_,⟨λl j h=>?_,λl l' j h h'=>ok.sf.tt l l' j ((e_T _ _).1 h).2 ((e_T _ _).1 h').2,λj h=>?_,ok.sf.zs,by rw[e_Z];exact ok.sf.ze⟩⟩
  .rcases(e_F j).1 h with h|h
   .exact ok.fb j h
   exact(ok.sf.tb o j h).1.1
  .rcases(e_G j).1 h with h|h
   .exact(e_F j).2 (.inl (ok.gf j h))
   simp_all
  .rcases(e_G j).1 h with h|h
   .exact ok.gn j h
   exact .inl (ok.sf.tb o j h).1.2
  .rcases(e_F j).1 h with h|h
   .exact ok.ff j h
   exact .inr (ok.sf.tb o j h).1.2
  .rcases(e_F j).1 h with h|h
   .exact ok.gc j h h'
   exact(ok.sf.tb o j h).2.2.2
  .obtain⟨hl,h⟩:=(e_T _ _).1 h
   obtain⟨u1,u2,u3,u4⟩:=ok.sf.tb l j h
   refine⟨u1,λhf=>?_,by simp_all,u4⟩
   rcases(e_F j).1 hf with hf|hf
   .exact u2 hf
   exact hl (ok.sf.tt l o j h hf)
  obtain⟨u1,u2,u3,u4⟩:=ok.sf.zc j h
  refine⟨u1,λhf=>?_,by simp_all,u4⟩
  rcases(e_F j).1 hf with hf|hf
  .exact u2 hf
  have:=(ok.sf.tb o j hf).1.2;omega
 have hFr:∀l b c,E.r l=some (b,c)->¬E.F b->¬E'.F b:=λl b c hr hn hf=>by
  rcases(e_F b).1 hf with hf|hf
  .exact hn hf
  exact(ok.sf.tb o b hf).2.2.1 l c hr
 have kg:KG nx o E w E' w:=⟨λl p _ h=>by simp_all,λg j h=>by cases g;exact(e_F j).2 (.inl h);exact(e_G j).2 (.inl h),λ_ _ _=>rfl,λl j hl h=>⟨(e_T _ _).2 ⟨hl,h⟩,rfl⟩,λj h=>⟨by simp_all,sb.refl w j⟩,λl _=>by rw[e_n]⟩
 refine⟨E',KU hR ok' kg h1 h2 h3 h4 ?_ (λ_ _ _ _ _ _=>rfl) (λl b c _ _ hr=>hFr l b c hr) (by rw[e_r];exact hR.dom) (λl j h=>hR.td l j ((e_T _ _).1 h).2)⟩
 rcases hR.obs o _ ho with⟨h0,h0'⟩|⟨h0,b,c,hr,⟨hd,hS⟩,hF⟩
 .have h0':els=[]:=h0'
  exact .inl ⟨by simp_all,by rw[h0'];rfl⟩
 obtain⟨arr,hh,ha⟩:=hS.blk
 refine .inr ⟨by simp_all,b,c,arr,by simp_all,hh,ha,by simpa using hS.len,hS.cap,(λe he=>by obtain⟨x,_,rfl⟩:=aa8.1 he;rfl),wP (sz:=2) (λe he=>by obtain⟨x,_,rfl⟩:=aa8.1 he;rfl) λi e hi=>?_,hFr o b c hr hF⟩
 rw[aaI] at hi
 cases hx:els[i]? with
 |none=>simp_all
 |some x=>
  rw[hx] at hi;cases hi
  rw[TR,rdL,rdL,rdL,aak]
  refine⟨⟨_,hS.a i x hx,by rw[rdD]⟩,⟨_,hS.s i x hx rfl,?_⟩,trivial⟩
  have hne:=hS.ne i x hx rfl
  rw[rdD]
  cases hdi:hd i with
  |none=>
   rw[hdi] at hne
   have hne:x.2=[]:=hne
   rw[hne];exact⟨none,0,rfl,aai _,.inl rfl⟩
  |some p=>
   obtain⟨k,cc⟩:=p
   rw[hdi] at hne
   exact⟨some ⟨k,0,none⟩,cc,by simp[nv],by simpa using hne.2.2.1,.inr ⟨k,0,rfl,(e_G k).2 (.inr hne.1),hne.2.rd _⟩⟩
end
def UB (f:C->Option C):Ob->Option Ob
 | .abs l h=>some (.abs l h)
 |x=>It f x
theorem Qi {E':Env} {f:C->Option C} {o:Nat} {x y:Ob} (h:UB f x=some y) (hf:∀c c' u,f c=some c'->cvC E w c u->cvC E' w c' u) (hr:∀p,E.r l=some p->E'.r o=some p) (hn:E'.n o↔E.n l)
 (hH:∀g b,E.H g b->E'.H g b) (hF:∀b,¬E.F b->¬E'.F b) (hT:∀j z,x= .abs j z->∀b,E.T j b->E'.T j b) (hx:de E w l x):de E' w o y:=by
 cases x with
 |abs j z=>
  cases h
  rcases hx with⟨h1,h2⟩|⟨h1,b,c,k1,k2,k3⟩
  .exact .inl ⟨hn.2 h1,h2⟩
  exact .inr ⟨λk=>h1 (hn.1 k),b,c,hr _ k1,z.st _ _ _ _ w w k2 (hT j z rfl) rfl (λ_ _=>rfl),hF b k3⟩
 |var t cs=>exact Cq (x:=.var t cs) h hf (λb c _ hr'=>hr _ hr') hn hH (λb c _ _=>hF b) hx
 |row t sz els g m=>exact Cq (x:=.row t sz els g m) h hf (λb c _ hr'=>hr _ hr') hn hH (λb c _ _=>hF b) hx
 |rown t sz els g=>exact Cq (x:=.rown t sz els g) h hf (λb c _ hr'=>hr _ hr') hn hH (λb c _ _=>hF b) hx
def MM (f:C->Option C) (ob:Laa):Lac->Option Laa
 |[]=>some []
 |(k,o)::r=>match go ob o with
  |some x=>match UB f x,MM f ob r with
   |some y,some ys=>some ((k,y)::ys)
   |_,_=>none
  |none=>none
theorem MN {f:C->Option C} {ob:Laa}:∀{m:Lac} {xs:Laa} {l:Nat} {x:Ob},MM f ob m=some xs->go xs l=some x->∃o x0,dV m l=some o/\go ob o=some x0/\UB f x0=some x
 |[],xs,l,x,h,hg=>by simp[MM] at h;subst h;cases hg
 |(k,o)::r,xs,l,x,h,hg=>by
  simp only[MM] at h
  split at h
  .rename_i x0 h0
   split at h
   .rename_i y ys h1 h2
    simp at h;subst h
    by_cases e:k=l
    .subst e;rw[cW] at hg;cases hg;exact⟨o,x0,by simp[dV],h0,h1⟩
    rw[bY _ _ e] at hg
    obtain⟨o',x',a1,a2,a3⟩:=MN h2 hg
    exact⟨o',x',by simp only[dV,uC e];exact a1,a2,a3⟩
   cases h
  cases h
def UC (m:Lac):Laa->Option Laa
 |[]=>some []
 |(k,x)::r=>match dV m k,UB (rlC m) x,UC m r with
  |some o,some y,some ys=>some ((o,y)::ys)
  |_,_,_=>none
theorem Qj {m:Lac} (hinj:∀a a' b,dV m a=some b->dV m a'=some b->a=a'):∀{ys ys':Laa} {o:Nat} {y':Ob},UC m ys=some ys'->go ys' o=some y'->∃k y,dV m k=some o/\go ys k=some y/\UB (rlC m) y=some y'
 |[],ys',o,y',h,hg=>by simp[UC] at h;subst h;cases hg
 |(k,x)::r,ys',o,y',h,hg=>by
  simp only[UC] at h
  split at h
  .rename_i o1 y1 ys1 h1 h2 h3
   simp at h;subst h
   by_cases e:o1=o
   .subst e;rw[cW] at hg;cases hg;exact⟨k,x,h1,cW _ _ _,h2⟩
   rw[bY _ _ e] at hg
   obtain⟨k',y,a1,a2,a3⟩:=Qj hinj h3 hg
   have hne:k≠k':=λe'=>by subst e';rw[h1] at a1;cases a1;exact e rfl
   exact⟨k',y,a1,by rw[bY _ _ hne];exact a2,a3⟩
  cases h
def kpC (pn:Lac):C->C
 | .p o k=>match dV pn o with
  |some _=>.p o k
  |none=>.any
 | .d _ (.i k n)=>.d false (.i k n)
 | .d _ (.b b)=>.d false (.b b)
 | .d _ (.str s)=>.d false (.str s)
 |_=>.any
def kpT (pn:Lac):T->T
 | .v (.c c)=>.v (.c (kpC pn c))
 |_=>.any
def kpS (pn:Lac):Lab->Lab
 |[]=>[]
 |(k,t)::r=>(k,kpT pn t)::kpS pn r
theorem Uu (pn:Lac):∀(sl:Lab) (k:Nat),gt (kpS pn sl) k=kpT pn (gt sl k)
 |[],k=>rfl
 |(j,t)::r,k=>by
  rw[kpS]
  by_cases e:j=k
  .subst e;rw[ew,ew]
  rw[dL _ _ e,dL _ _ e];exact Uu pn r k
def Zf (m:Lac) (p:Nat×Nat):Bool:=m.any λq=>d0 q.1 p.1&&d0 q.2 p.2
theorem KB {m:Lac} {p:Nat×Nat} (h:Zf m p=true):p∈m:=by
 obtain⟨q,h1,h2⟩:=aaE.1 h
 simp only[v0] at h2
 have a:=aae h2.1
 have b:=aae h2.2
 obtain⟨q1,q2⟩:=q
 obtain⟨p1,p2⟩:=p
 simp only at a b
 subst a;subst b;exact h1
def Yc (m m':Lac) (ys:Laa) (nx nx':Nat):Bool:=
 py (m.map (·.1))&&py (m.map (·.2))&&py (m'.map (·.1))&&py (m'.map (·.2))&&
 m.all (λp=>nlt p.1 nx&&(!rsv p.2||rsv p.1)&&(!rsp p.1||Zf m' p&&match go ys p.1 with|some (.var _ _)=>true|_=>false))&&
 m'.all (λp=>nlt p.2 nx'&&((rsp p.1&&Zf m p)||(!rsv p.1&&!rsv p.2)))
def FE (n:Nat):Laa->Bool
 |[]=>true
 |(_,.abs j _)::r=>nlt j n&&FE n r
 |_::r=>FE n r
theorem FF {n k j:Nat} {z:Hid}:∀{ob:Laa},FE n ob=true->go ob k=some (.abs j z)->j<n
 |[],_,h=>by cases h
 |(k',x)::r,h0,h=>by
  by_cases e:k'=k
  .subst e;rw[cW] at h;cases h
   simp only[FE,v0] at h0;exact dx h0.1
  rw[bY _ _ e] at h
  cases x<;>first|(simp only[FE,v0] at h0;exact FF h0.2 h)|(simp only[FE] at h0;exact FF h0 h)
def pinned (m:Lac):Lac:=(m.filter λp=>rsp p.1).map λp=>(p.2,p.1)
theorem o_inl  {N':Nat} {d:Tmp}  {ps:String} {af:Array Edge} {gd:Option (Nat×Bool)}  {fn:Func} {c:Code} {args:List Operand} {tys:Array TypeId} {sl':Lab} {ob obs2:Laa}  {ts ts2:List T} {ys ys':Laa} {out':T} {m m':Lac} {sl0:Lab} {rs:List ResultVar}
 (hf:P.funcs[f]?=some fn) (hb:fn.body=some c) (hnm:(fn.name== "runtime.NumGoroutine")=false) (hN:fn.ntmps=N') (hrs:fn.results.toList=rs) (h:AWC P N' c ⟨sl0,obs2,nx⟩ (xU N' P rs ys out []))
 (ht:Dz sl args=some ts) (ha:xD (rlC (inv m)) ts=some ts2) (hle:aaB ts2.length N'=true) (hs0:xY 0 ts2=sl0) (hx:MM (rlC (inv m)) ob m=some obs2)
 (hm:Yc m m' ys nx nx'=true) (hj:FE nx' ys=true) (hy:UC m' ys=some ys') (ho:Cd (rlC m') out=some out') (hs:kpS (pinned m) sl=sl') (hd:nlt d N=true):
 AWO P N ⟨some d,.call ⟨.value (.func f),args.toArray,tys⟩,ty,ps,af,gd⟩ ⟨sl,ob,nx⟩ ⟨(d,out')::sl',ys',nx'⟩:=by
 subst hs0;subst hrs;subst hs
 intro cx E a w hR
 have ok:=hR.ok
 obtain⟨t1,t2⟩:=tO ht
 simp only[Yc,v0,aah,aan,aay] at hm
 obtain⟨⟨⟨⟨⟨hm1,hm2⟩,hm3⟩,hm4⟩,hm5⟩,hm6⟩:=hm
 have ndm1:=kA hm1
 have ndm2:=kA hm2
 have ndm3:=kA hm3
 have ndm4:=kA hm4
 have inv_of:∀{k o},dV m k=some o->dV (inv m) o=some k:=λh=>jz (by rw[yC];exact ndm2) (ry.2 (eB h))
 have of_inv:∀{k o},dV (inv m) o=some k->dV m k=some o:=λh=>jz ndm1 (ry.1 (eB h))
 have inv_of':∀{k o},dV m' k=some o->dV (inv m') o=some k:=λh=>jz (by rw[yC];exact ndm4) (ry.2 (eB h))
 have of_inv':∀{k o},dV (inv m') o=some k->dV m' k=some o:=λh=>jz ndm3 (ry.1 (eB h))
 obtain⟨E2,hE2⟩:∃E2:Env,E2={E with r:=λk=>match dV m k with|some o=>E.r o|none=>none,n:=λk=>match dV m k with|some o=>E.n o|none=>False}:=⟨_,rfl⟩
 have e_r:∀k o,dV m k=some o->E2.r k=E.r o:=λk o h=>by subst hE2;simp only[h]
 have e_n:∀k o,dV m k=some o->(E2.n k↔E.n o):=λk o h=>by subst hE2;simp only[h]
 have e_r':∀k p,E2.r k=some p->∃o,dV m k=some o/\E.r o=some p:=λk p h=>by
  subst hE2
  simp only at h
  split at h
  .rename_i o h1;exact⟨o,h1,h⟩
  cases h
 have e_F:E2.F=E.F:=by subst hE2;rfl
 have e_G:E2.G=E.G:=by subst hE2;rfl
 have e_T:E2.T=E.T:=by subst hE2;rfl
 have e_Z:E2.Z=E.Z:=by subst hE2;rfl
 have e_H:∀g,E2.H g=E.H g:=λg=>by cases g;exact e_F;exact e_G
 let cx2:Cx:=⟨cx.w0,cx.W,E2.r,cx.F0,cx.Z,cx.gw,cx.G0⟩
 have ok2:dK cx2 E2 w:=by
  refine⟨by rw[e_F];exact ok.fb,by rw[e_F,e_G];exact ok.gf,by rw[e_G];exact ok.gn,λk b c h=>?_,λk k' b c c' h h'=>?_,ok.os,ok.tape,ok.output,ok.size,ok.block,λ_ _ _ h=>h,by rw[e_F];exact ok.ff,by rw[e_F];exact ok.gc,⟨λl b h=>?_,by rw[e_T];exact ok.sf.tt,λb h=>?_,ok.sf.zs,by rw[e_Z];exact ok.sf.ze⟩⟩
  .obtain⟨o,h1,h2⟩:=e_r' k _ h
   obtain⟨h3,h4⟩:=ok.rb o b c h2
   refine⟨h3,h4.imp id λ⟨q1,q2⟩=>⟨q1,?_⟩⟩
   rcases(hm5 _ (eB h1)).1.2 with h|h
   .rw[h] at q2;cases q2
   exact h
  .obtain⟨o,h1,h2⟩:=e_r' k _ h
   obtain⟨o',h1',h2'⟩:=e_r' k' _ h'
   have:=ok.inj o o' b c c' h2 h2';subst this
   have q1:=inv_of h1
   have q2:=inv_of h1'
   rw[q1] at q2;exact Option.some.inj q2
  .rw[e_T] at h
   obtain⟨h1,h2,h3,h4⟩:=ok.sf.tb l b h
   exact⟨h1,by rw[e_F];exact h2,λk c hk=>by obtain⟨o,_,h5⟩:=e_r' k _ hk;exact h3 o c h5,h4⟩
  obtain⟨h1,h2,h3,h4⟩:=ok.sf.zc b h
  exact⟨h1,by rw[e_F];exact h2,λk c hk=>by obtain⟨o,_,h5⟩:=e_r' k _ hk;exact h3 o c h5,h4⟩
 have hin:∀c c' u,rlC (inv m) c=some c'->cvC E w c u->cvC E2 w c' u:=by
  intro c c' u h hc
  cases c with
  |d g x=>cases h;exact cT (λ_ _=>rfl) (λb hb=>by rw[e_H];exact hb) _ _ hc
  |nil=>cases h;exact hc
  |any=>cases h;trivial
  |fn f=>cases h;exact hc
  |w l n=>
   simp only[rlC] at h
   split at h
   .rename_i k h1;cases h
    obtain⟨b,cc,q1,q2⟩:=hc
    exact⟨b,cc,(e_r k l (of_inv h1)).trans q1,q2⟩
   cases h
  |wn l n=>
   simp only[rlC] at h
   split at h
   .rename_i k h1;cases h
    rcases hc with⟨q0,q1⟩|⟨q0,b,cc,q1,q2⟩
    .exact .inl ⟨(e_n k l (of_inv h1)).2 q0,q1⟩
    exact .inr ⟨λq=>q0 ((e_n k l (of_inv h1)).1 q),b,cc,(e_r k l (of_inv h1)).trans q1,q2⟩
   cases h
  |p l n=>
   simp only[rlC] at h
   split at h
   .rename_i k h1;cases h
    obtain⟨b,cc,q1,q2⟩:=hc
    exact⟨b,cc,(e_r k l (of_inv h1)).trans q1,q2⟩
   cases h
  |_=>cases h
 have hTV:TV E2 w ts2 (args.map a.eval):=GQ hin ha t1 (λx t hm=>by have:=hR.op x;rwa [Lk.mem t2 x t hm] at this)
 obtain⟨v1,v2⟩:=Fd 0 hTV
 have hle':ts2.length<=N':=aaP hle
 obtain⟨vals,hvals⟩:∃vals:Array Value,vals=(args.map a.eval).toArray:=⟨_,rfl⟩
 have hsz:vals.size=ts2.length:=by rw[hvals];simpa using v1
 have hR2:Rel N' cx2 E2 ⟨xY 0 ts2,obs2,nx⟩ {tmps:=vals++aal (fn.ntmps-vals.size) undef,defers:=[]} w:=by
  refine⟨ok2,λk p h=>?_,λk x h=>?_,λk=>?_,rfl,by simp;omega,λl b h=>by rw[e_T] at h;exact hR.td l b h⟩
  .obtain⟨o,h1,_⟩:=e_r' k p h
   exact dx (hm5 _ (eB h1)).1.1
  .obtain⟨o,x0,h1,h2,h3⟩:=MN hx h
   exact Qi h3 hin (λp hp=>(e_r k o h1).trans hp) (e_n k o h1) (λg b hb=>by rw[e_H];exact hb) (λb hb=>by rw[e_F];exact hb) (λj z _ b hb=>by rw[e_T];exact hb) (hR.obs o x0 h2)
  by_cases hk:k<ts2.length
  .obtain⟨u,h3,h4⟩:=(v2 k).1 ⟨aat _,by omega⟩
   have:(vals++aal (fn.ntmps-vals.size) undef).getD k undef=u:=by
    have h5:vals[k]?=some u:=by rw[hvals];simpa using h3
    have h6:(vals++aal (fn.ntmps-vals.size) undef)[k]?=some u:=by rw[Array.getElem?_append_left oaa];exact h5
    simp[h6]
   rw[this];exact h4
  have:=(v2 k).2 oaa
  show cvT _ w (gt (xY 0 ts2) k) _
  rw[this];trivial
 have hwp:=h cx2 E2 _ w hR2
 have hcalls:Calls P f vals w λe w'=>∃v E',e= .returned v/\dK cx2 E' w'/\cvT E' w' out v/\(∀l y,go ys l=some y->de E' w' l y):=by
  refine calls_of_wp hf hb (wp_mono hwp ?_)
  rintro e a' w' ⟨E',s',hR',hq⟩
  have fin:(∃s'' vs,ea N' s' s''/\qV P s'' fn.results.toList vs/\U0 vs=out/\LoA s''.ob ys/\LoA s''.ob [])->
   a'.defers=[]/\∃v,(results fn a'.tmps).run P w'= .ok v w'/\∃v' E',Ending.returned v= .returned v'/\dK cx2 E' w'/\cvT E' w' out v'/\(∀l y,go ys l=some y->de E' w' l y):=by
   rintro⟨s'',vs,hw,hres,ho,hys,_⟩
   obtain⟨E'',hR''⟩:=hw _ _ _ _ hR'
   obtain⟨us,k1,k2⟩:=xV hR'' hres
   have hmm:(fn.results.mapM (nk a'.tmps)).run P w'= .ok us.toArray w':=by
    rw[<-aaW (xs:=fn.results),List.mapM_toArray]
    simp only[Sem.run_map,k1]
    rfl
   have hrr:results fn a'.tmps=(fn.results.mapM (nk a'.tmps))>>= λvs=>pure (if h:vs.size=1 then vs[0] else .tuple vs):=rfl
   have hv:∃v,(results fn a'.tmps).run P w'= .ok v w'/\cvT E'' w' out v:=by
    subst ho
    match vs,us,k2 with
    |[],[],_=>exact⟨.tuple #[],by rw[hrr];simp[hmm],#[],rfl,trivial⟩
    |[v],[u],k2=>exact⟨u,by rw[hrr];simp[hmm],k2.1⟩
    |v1::v2::vs,u1::u2::us,k2=>exact⟨.tuple (u1::u2::us).toArray,by rw[hrr];simp[hmm],_,rfl,k2⟩
   obtain⟨v,q1,q2⟩:=hv
   exact⟨hR''.dfr,v,q1,v,E'',rfl,hR''.ok,q2,λl y h=>hR''.obs l y (JT hys h)⟩
  cases e with
  |normal=>exact fin hq
  |ret=>exact fin hq
  |_=>exact hq.elim
 have hent:(callFunc f vals).run P w= .ok (.enter f vals) w:=by simp[callFunc,hf,hb];simpa using hnm
 unfold Oper.wp
 have hrun:(execOp a.eval ⟨some d,.call ⟨.value (.func f),args.toArray,tys⟩,ty,ps,af,gd⟩).run P w= .ok (.enter f vals) w:=by
  subst hvals
  simp only[execOp,resolve,Act.eval,Deferred.ofValue,Sem.run_bind,Sem.run_pure,Result.andThen_ok,invoke]
  simpa using hent
 rw[hrun,Oper.upon_enter]
 refine hcalls.mono ?_
 rintro e w' ⟨v,E',rfl,ok',hv,hobs⟩
 obtain⟨E3,hE3⟩:∃E3:Env,E3={E' with r:=λo=>match dV (inv m') o with|some k=>E'.r k|none=>none,n:=λo=>match dV (inv m') o with|some k=>E'.n k|none=>False,T:=λl b=>l<nx'/\E'.T l b}:=⟨_,rfl⟩
 have f_r:∀k o,dV m' k=some o->E3.r o=E'.r k:=λk o h=>by subst hE3;simp only[inv_of' h]
 have f_n:∀k o,dV m' k=some o->(E3.n o↔E'.n k):=λk o h=>by subst hE3;simp only[inv_of' h]
 have f_r':∀o p,E3.r o=some p->∃k,dV m' k=some o/\E'.r k=some p:=λo p h=>by
  subst hE3
  simp only at h
  split at h
  .rename_i k h1;exact⟨k,of_inv' h1,h⟩
  cases h
 have f_F:E3.F=E'.F:=by subst hE3;rfl
 have f_G:E3.G=E'.G:=by subst hE3;rfl
 have f_T:∀l b,E3.T l b↔l<nx'/\E'.T l b:=λl b=>by subst hE3;exact Iff.rfl
 have f_Z:E3.Z=E'.Z:=by subst hE3;rfl
 have f_H:∀g,E3.H g=E'.H g:=λg=>by cases g;exact f_F;exact f_G
 have hpin:∀k o p,rsp k=true->(k,o)∈m->E'.r k=some p->E.r o=some p:=λk o p hk hm hp=>by
  have h1:E2.r k=some p:=ok'.pin k p hk hp
  rwa [e_r k o (jz ndm1 hm)] at h1
 have ok3:dK cx E3 w':=by
  refine⟨by rw[f_F];exact ok'.fb,by rw[f_F,f_G];exact ok'.gf,by rw[f_G];exact ok'.gn,λo b c h=>?_,λo o' b c c' h h'=>?_,ok'.os,ok'.tape,ok'.output,ok'.size,ok'.block,λo p ho h=>?_,by rw[f_F];exact ok'.ff,by rw[f_F];exact ok'.gc,⟨λl b h=>?_,λl l' b h h'=>ok'.sf.tt l l' b ((f_T _ _).1 h).2 ((f_T _ _).1 h').2,λb h=>?_,ok'.sf.zs,by rw[f_Z];exact ok'.sf.ze⟩⟩
  .obtain⟨k,h1,h2⟩:=f_r' o _ h
   obtain⟨h3,h4⟩:=ok'.rb k b c h2
   refine⟨h3,?_⟩
   rcases(hm6 _ (eB h1)).2 with⟨q1,q2⟩|⟨q1,q2⟩
   .exact(ok.rb o b c (hpin k o _ q1 (KB q2) h2)).2
   exact .inl (h4.resolve_right (λq=>by rw[q1] at q;cases q.2))
  .obtain⟨k,h1,h2⟩:=f_r' o _ h
   obtain⟨k',h1',h2'⟩:=f_r' o' _ h'
   have:=ok'.inj k k' b c c' h2 h2';subst this
   rw[h1] at h1';exact Option.some.inj h1'
  .obtain⟨k,h1,h2⟩:=f_r' o _ h
   rcases(hm6 _ (eB h1)).2 with⟨q1,q2⟩|⟨q1,q2⟩
   .exact ok.pin o p ho (hpin k o _ q1 (KB q2) h2)
   rw[rC q2] at ho;cases ho
  .obtain⟨_,h⟩:=(f_T _ _).1 h
   obtain⟨h1,h2,h3,h4⟩:=ok'.sf.tb l b h
   exact⟨h1,by rw[f_F];exact h2,λo c ho=>by obtain⟨k,_,h5⟩:=f_r' o _ ho;exact h3 k c h5,h4⟩
  obtain⟨h1,h2,h3,h4⟩:=ok'.sf.zc b h
  exact⟨h1,by rw[f_F];exact h2,λo c ho=>by obtain⟨k,_,h5⟩:=f_r' o _ ho;exact h3 k c h5,h4⟩
 have hout:∀c c' u,rlC m' c=some c'->cvC E' w' c u->cvC E3 w' c' u:=by
  intro c c' u h hc
  cases c with
  |d g x=>cases h;exact cT (λ_ _=>rfl) (λb hb=>by rw[f_H];exact hb) _ _ hc
  |nil=>cases h;exact hc
  |any=>cases h;trivial
  |fn f=>cases h;exact hc
  |w l n=>
   simp only[rlC] at h
   split at h
   .rename_i k h1;cases h
    obtain⟨b,cc,q1,q2⟩:=hc
    exact⟨b,cc,(f_r l k h1).trans q1,q2⟩
   cases h
  |wn l n=>
   simp only[rlC] at h
   split at h
   .rename_i k h1;cases h
    rcases hc with⟨q0,q1⟩|⟨q0,b,cc,q1,q2⟩
    .exact .inl ⟨(f_n l k h1).2 q0,q1⟩
    exact .inr ⟨λq=>q0 ((f_n l k h1).1 q),b,cc,(f_r l k h1).trans q1,q2⟩
   cases h
  |p l n=>
   simp only[rlC] at h
   split at h
   .rename_i k h1;cases h
    obtain⟨b,cc,q1,q2⟩:=hc
    exact⟨b,cc,(f_r l k h1).trans q1,q2⟩
   cases h
  |_=>cases h
 have hinj':∀a a' b,dV m' a=some b->dV m' a'=some b->a=a':=λa a' b h h'=>by
  have h1:=inv_of' h
  rw[inv_of' h'] at h1;exact(Option.some.inj h1).symm
 refine⟨E3,ok3,λo p h=>?_,λo y h=>?_,λk=>?_,hR.dfr,by simpa [Act.put] using hR.size,λl b h=>((f_T _ _).1 h).1⟩
 .obtain⟨k,h1,_⟩:=f_r' o p h
  exact dx (hm6 _ (eB h1)).1
 .obtain⟨k,y0,h1,h2,h3⟩:=Qj hinj' hy h
  refine Qi h3 hout (λp hp=>(f_r k o h1).trans hp) (f_n k o h1) (λg b hb=>by rw[f_H];exact hb) (λb hb=>by rw[f_F];exact hb) (λj z e b hb=>(f_T _ _).2 ⟨FF hj (e▸h2),hb⟩) (hobs k y0 h2)
 show cvT E3 w' (gt ((d,out')::kpS (pinned m) sl) k) ((a.put (some d) v).tmps.getD k undef)
 rw[iC (by rw[hR.size];exact dx hd)]
 by_cases hk:d=k
 .subst hk;rw[ew,if_pos rfl];exact Ce hout ho hv
 rw[dL _ _ hk,if_neg hk,Uu]
 have h0:=hR.sl k
 simp only at h0
 cases hg:gt sl k with
 |tup ts=>trivial
 |any=>trivial
 |v vv=>
  cases vv with
  |agg cs=>trivial
  |c c=>
   rw[hg] at h0
   have h0:cvC E w c (a.tmps.getD k undef):=h0
   show cvC E3 w' (kpC (pinned m) c) _
   cases c with
   |p o j=>
    simp only[kpC]
    split
    .rename_i k' h1
     have hmem:=eB h1
     simp only[pinned,aa8,List.mem_filter,Prod.mk.injEq] at hmem
     obtain⟨⟨p1,p2⟩,⟨hp1,hp2⟩,hp3,hp4⟩:=hmem
     simp only at hp2 hp3 hp4
     subst hp3;subst hp4
     obtain⟨b,cc,q1,q2⟩:=h0
     have hh:=(hm5 _ hp1).2
     rcases hh with hh|⟨hh1,hh2⟩
     .rw[hh] at hp2;cases hp2
     split at hh2
     .rename_i t cs hgo
      obtain⟨b',c',arr,r1,_⟩:=hobs _ _ hgo
      have r2:=hpin _ _ _ hp2 hp1 r1
      rw[q1] at r2
      have r3:=f_r _ _ (jz ndm3 (KB hh1))
      exact⟨b,cc,by rw[r3,r1];exact r2.symm,q2⟩
     cases hh2
    trivial
   |d g x=>
    cases x<;>first|trivial|(simp only[kpC,cvC,rdD] at h0 ⊢;exact h0)
   |_=>trivial
theorem Tk {o:Oper} {needs:List (Operand×T)} (hn:els.length=n)
 (h:AWK P o needs nob (.v (.c (.w q n))) [(q,.row e sz els g true)] [] none):AWK P o needs nob (.v (.c (.d g (.l els)))) [(q,.row e sz els g false)] [] none:=by
 intro cx E a w ok hne hnob hfr
 obtain⟨hq1,hq2⟩:=hfr q _ (.head _)
 refine Oper.wp_mono ?_ (h cx E a w ok hne hnob (λl x hm=>by simp_all))
 rintro a' w' ⟨v,E',k1,ok',k3,⟨b,c,hr,hv⟩,k5,k6,k7⟩
 obtain⟨b',c',arr,hr',hh,ha,hlc,hmx,hes,hrd,hFm,_⟩:=k5 q _ (.head _)
 rw[hr] at hr';cases hr'
 have hF:=hFm rfl
 obtain⟨hb1,hb2⟩:=ok'.rb q b c hr
 have hb3:cx.w0.heap.size<=b:=by
  rcases hb2 with h|h
  .exact h
  simp_all
 let E2:Env:=⟨E'.r,λj=>E'.F j\/j=b,λj=>E'.G j\/(g=true/\j=b),E'.T,E'.Z,E'.n⟩
 have hH:∀g' j,E'.H g' j->E2.H g' j:=λg' j hj=>by cases g'<;>exact .inl hj
 have hold:∀l c',E.r l≠some (b,c'):=λl c' hl=>by
  have h1:=k3.r l _ (by simp) hl
  have:=ok'.inj _ _ _ _ _ h1 hr
  simp_all
 refine⟨v,E2,k1,⟨?_,?_,?_,ok'.rb,ok'.inj,ok'.os,ok'.tape,ok'.output,ok'.size,ok'.block,ok'.pin,λj hj=>hj.elim (ok'.ff j) (λe=>.inr (e▸hb3)),λj hj hj'=>hj.elim (λh=>ok'.gc j h hj') (λe=>e▸.mk hh),
  ⟨λl j h=>?_,ok'.sf.tt,λj h=>?_,ok'.sf.zs,ok'.sf.ze⟩⟩,⟨k3.r,λj hj=>.inl (k3.F j hj),λj hj=>.inl (k3.G j hj),?_,k3.heap,k3.own,k3.ownk,k3.T,k3.Z,k3.n⟩,?_,λl x hm=>?_,(λ_ _ h=>by cases h),λl x hl=>?_⟩
 .rintro j (h|rfl)
  .exact ok'.fb j h
  exact hb1
 .rintro j (h|⟨_,rfl⟩)
  .exact .inl (ok'.gf j h)
  omega
 .rintro j (h|⟨_,rfl⟩)
  .exact ok'.gn j h
  omega
 .obtain⟨h1,h2,h3,h4⟩:=ok'.sf.tb l j h
  grind
 .obtain⟨h1,h2,h3,h4⟩:=ok'.sf.zc j h
  grind
 .rintro j (h|rfl)
  .exact k3.F' j h
  simp_all
 .refine⟨some ⟨b,0,none⟩,c,by rw[hv,hn],hlc,.inr ⟨b,0,rfl,?_,cU (λ_ _=>rfl) (hH g) rfl _ _ hrd⟩⟩
  cases g
  .exact .inr rfl
  exact .inr ⟨rfl,rfl⟩
 .simp at hm;obtain⟨rfl,rfl⟩:=hm
  exact⟨b,c,arr,hr,hh,ha,hlc,hmx,hes,cU (λ_ _=>rfl) (hH g) rfl _ _ hrd,(λh=>by cases h),λ_=>⟨.inr rfl,λhg=>.inr ⟨hg,rfl⟩⟩⟩
 grind
section
variable {P:Program} {N:Nat} {d:Tmp} {tt:TypeId} {ps:String} {af:Array Edge} {gd:Option (Nat×Bool)} {x y:Operand} {sl sl1 sl2:Lab} {ob ob1:Laa} {nx:Nat}
theorem olh {o:Nat} {els:List (Int×List Int)} {A:Option Addr} {e:Int×List Int} [TySc P t] (he:els[i]?=some e) (hx:opT sl x= .v (.c (.e o 2 i 1))) (ho:go ob o=some (.cxo o ty nt els (some (i,A,n,k)))) (hN:nlt d N=true):
 NS0 P N ⟨some d,.load t x,tt,ps,af,gd⟩ sl ob nx d (.v (.c (.d false (.k A n k)))) ⟨d,[(x,.v (.c (.e o 2 i 1)))],[(o,.cxo o ty nt els (some (i,A,n,k)))],.v (.c (.d false (.k A n k))),[]⟩:=dS (st:=⟨sl,ob,nx⟩) (MD he) rfl hN ⟨hx,trivial⟩ ⟨ho,trivial⟩ rfl
theorem olx {o:Nat} {els:List (Int×List Int)} {e:Int×List Int} [TySc P t] (he:els[i]?=some e) (hx:opT sl x= .v (.c (.e o 2 i 1))) (ho:go ob o=some (.cxo o ty nt els none)) (hN:nlt d N=true):
 NS0 P N ⟨some d,.load t x,tt,ps,af,gd⟩ sl ob nx d (.v (.c (.r o (.l (e.2.map eI))))) ⟨d,[(x,.v (.c (.e o 2 i 1)))],[(o,.cxo o ty nt els none)],.v (.c (.r o (.l (e.2.map eI)))),[]⟩:=dS (st:=⟨sl,ob,nx⟩) (RQ he rfl) rfl hN ⟨hx,trivial⟩ ⟨ho,trivial⟩ rfl
theorem Wu {o:Oper} {needs:List (Operand×T)} {out':T} (h:AWN P o needs nob out nw) (ho:∀E w v,cvT E w out v->cvT E w out' v):AWN P o needs nob out' nw:=by
 intro cx E a w ok hn hb hf
 refine Oper.wp_mono ?_ (h cx E a w ok hn hb hf)
 grind
def nkC:C->C
 | .nil=>.d false (.k none 0 0)
 |c=>c
def Zs:List C->List C
 |[]=>[]
 |c::cs=>nkC c::Zs cs
theorem Zr {c:C} (h:cvC E w c u):cvC E w (nkC c) u:=by
 cases c with
 |nil=>have h:u= .slice none 0 0:=h;subst h;rfl
 |_=>exact h
theorem Ql {E:Env} {w:World}:∀{cs:List C} {us:Lae},CV E w cs us->CV E w (Zs cs) us
 |[],[],_=>trivial
 |c::cs,u::us,h=>⟨Zr h.1,Ql h.2⟩
 |[],_::_,h=>h.elim
 |_::_,[],h=>h.elim
theorem bdk {zs cs cs':List C} {pl:Lac} {parts:List (Nat×Operand)} {vs:List V} [TyZ P t zs] [TyB P t pl] (hv:OA sl (parts.map (·.2))=some vs) (h:FT pl zs ((parts.map (·.1)).zip vs)=some cs) (hk:Zs cs=cs') (hN:nlt d N=true):
 NS0 P N ⟨some d,.build t parts.toArray,tt,ps,af,gd⟩ sl ob nx d (.v (.agg cs')) ⟨d,(parts.map (·.2)).zip (vs.map T.v),[],.v (.agg cs'),[]⟩:=by
 subst hk
 obtain⟨h1,h2⟩:=Fo hv
 exact dS (st:=⟨sl,ob,nx⟩) (Wu (Qk (by simp_all) h) (λE w v ⟨arr,hu,hc⟩=>⟨arr,hu,Ql hc⟩)) rfl hN h2 trivial rfl
theorem bsx {len:Nat} {parts:List (Nat×Operand)} {vs:List V} (h:NS P N ⟨some d,.buildSlice t len parts.toArray,tt,ps,af,gd⟩ ⟨sl,ob,nx⟩ ⟨(d,.v (.c (.w nx len)))::sl,(nx,.row e sz els g true)::ob,nx'⟩ ⟨d,(parts.map (·.2)).zip (vs.map T.v),[],.v (.c (.w nx len)),[(nx,.row e sz els g true)]⟩) (hn:els.length=len):
 NX P N ⟨some d,.buildSlice t len parts.toArray,tt,ps,af,gd⟩ ⟨sl,ob,nx⟩ ⟨(d,.v (.c (.d g (.l els))))::sl,(nx,.row e sz els g false)::ob,nx'⟩ ⟨⟨d,(parts.map (·.2)).zip (vs.map T.v),[],.v (.c (.d g (.l els))),[(nx,.row e sz els g false)]⟩,[],none⟩:=by
 obtain⟨h1,h2,h3,h4,h5,h6,h7⟩:=h
 exact⟨Tk hn (vY (FO h1)),.inl ⟨rfl,h3⟩,h4,h5,h6,rfl⟩
def YS (a:Int):List D:=[.i .i64 a,.k none 0 0]
end
def fzC (nw:Laa):C->Option (RC×Lac)
 | .d _ (.i k n)=>some (.d (.i k n),[])
 | .d _ (.b x)=>some (.d (.b x),[])
 | .d _ (.str s)=>some (.d (.str s),[])
 | .d true (.l xs)=>some (.d (.l xs),[])
 | .wn l n=>match go nw l with
  |some (.rown _ _ els true)=>some (.d (.l els),[(els.length,n)])
  |_=>none
 | .w l n=>match go nw l with
  |some (.row _ _ els true true)=>some (.d (.l els),[(els.length,n)])
  |_=>none
 |_=>none
def T3 (nw:Laa):List C->Option (List RC×Lac)
 |[]=>some ([],[])
 |c::cs=>match fzC nw c,T3 nw cs with
  |some (r,e),some (rs,es)=>some (r::rs,e++es)
  |_,_=>none
def fzV (nw:Laa):V->Option (RV×Lac)
 | .c c=>match fzC nw c with
  |some (r,e)=>some (.c r,e)
  |none=>none
 | .agg cs=>match T3 nw cs with
  |some (r,e)=>some (.agg r,e)
  |none=>none
def Og (nw:Laa):List V->Option (List RV×Lac)
 |[]=>some ([],[])
 |c::cs=>match fzV nw c,Og nw cs with
  |some (r,e),some (rs,es)=>some (r::rs,e++es)
  |_,_=>none
def fzT (nw:Laa):T->Option (List RV×Lac)
 | .v v=>match fzV nw v with
  |some (r,e)=>some ([r],e)
  |none=>none
 | .tup (a::b::vs)=>Og nw (a::b::vs)
 |_=>none
section
variable {nw:Laa} {E:Env} {w:World} {G:Nat->Prop} {base:Nat} (hG:∀b,E.G b->G b) (hN:∀l y,go nw l=some y->de E w l y) (hb:∀l y b c,go nw l=some y->E.r l=some (b,c)->js w b->G b)
include hG hN hb
theorem T2 {c:C} {r:RC} {e:Lac} (h:fzC nw c=some (r,e)) (he:Eqs e) (hc:cvC E w c u):rcR w G base r u []:=by
 cases c with
 |d g x=>
  cases x with
  |i k n=>simp[fzC] at h;obtain⟨rfl,rfl⟩:=h;exact⟨rfl,by simpa [cvC,rdD] using hc⟩
  |b n=>simp[fzC] at h;obtain⟨rfl,rfl⟩:=h;exact⟨rfl,by simpa [cvC,rdD] using hc⟩
  |str n=>simp[fzC] at h;obtain⟨rfl,rfl⟩:=h;exact⟨rfl,by simpa [cvC,rdD] using hc⟩
  |k A n c'=>simp[fzC] at h
  |l xs=>
   cases g with
   |false=>simp[fzC] at h
   |true=>simp[fzC] at h;obtain⟨rfl,rfl⟩:=h;exact⟨rfl,cT (λ_ _=>rfl) hG _ _ hc⟩
 |wn l n=>
  simp only[fzC] at h
  split at h
  .rename_i ty sz els hg
   simp at h;obtain⟨rfl,rfl⟩:=h
   have hn:els.length=n:=he.1
   rcases hc with⟨h0,h1,h2⟩|⟨h0,b,c,h1,h2⟩
   .subst h2;subst hn
    have:els=[]:=aaK h1
    subst this
    exact⟨rfl,none,0,rfl,aai _,.inl rfl⟩
   rcases hN l _ hg with⟨k0,_⟩|⟨_,b',c',arr,k1,k2,k3,k4,k5,k6,k7,k8⟩
   .exact absurd k0 h0
   rw[h1] at k1;cases k1
   exact⟨rfl,some ⟨b,0,none⟩,c,by rw[hn];exact h2,k4,.inr ⟨b,0,rfl,hb l _ b c hg h1 (.mk k2),cU (λ_ _=>rfl) hG rfl _ _ k7⟩⟩
  cases h
 |w l n=>
  simp only[fzC] at h
  split at h
  .rename_i ty sz els hg
   simp at h;obtain⟨rfl,rfl⟩:=h
   have hn:els.length=n:=he.1
   obtain⟨b,c,h1,h2⟩:=hc
   obtain⟨b',c',arr,k1,k2,k3,k4,k5,k6,k7,k8,_⟩:=hN l _ hg
   rw[h1] at k1;cases k1
   exact⟨rfl,some ⟨b,0,none⟩,c,by rw[hn];exact h2,k4,.inr ⟨b,0,rfl,hb l _ b c hg h1 (.mk k2),cU (λ_ _=>rfl) hG rfl _ _ k7⟩⟩
  cases h
 |_=>simp[fzC] at h
theorem PN:∀{cs:List C} {rs:List RC} {e:Lac} {us:Lae},T3 nw cs=some (rs,e)->Eqs e->CV E w cs us->Is w G base rs us []
 |[],rs,e,us,h,he,hc=>by
  simp[T3] at h;obtain⟨rfl,rfl⟩:=h
  cases us with
  |nil=>rfl
  |cons _ _=>exact hc.elim
 |c::cs,rs,e,us,h,he,hc=>by
  simp only[T3] at h
  split at h
  .rename_i r e1 rs' e2 h1 h2
   simp at h;obtain⟨rfl,rfl⟩:=h
   obtain⟨g1,g2⟩:=eW he
   cases us with
   |nil=>exact hc.elim
   |cons u us=>exact⟨[],[],rfl,T2 hG hN hb h1 g1 hc.1,PN h2 g2 hc.2⟩
  cases h
theorem T8 {v:V} {r:RV} {e:Lac} (h:fzV nw v=some (r,e)) (he:Eqs e) (hc:cvV E w v u):rvR w G base r u []:=by
 cases v with
 |c c=>
  simp only[fzV] at h
  split at h
  .rename_i r' e' h1;simp at h;obtain⟨rfl,rfl⟩:=h;exact T2 hG hN hb h1 he hc
  cases h
 |agg cs=>
  simp only[fzV] at h
  split at h
  .rename_i r' e' h1;simp at h;obtain⟨rfl,rfl⟩:=h
   obtain⟨arr,hu,hc⟩:=hc
   exact⟨arr,hu,PN hG hN hb h1 he hc⟩
  cases h
theorem PQ:∀{cs:List V} {rs:List RV} {e:Lac} {us:Lae},Og nw cs=some (rs,e)->Eqs e->VV E w cs us->EY w G base rs us []
 |[],rs,e,us,h,he,hc=>by
  simp[Og] at h;obtain⟨rfl,rfl⟩:=h
  cases us with
  |nil=>rfl
  |cons _ _=>exact hc.elim
 |c::cs,rs,e,us,h,he,hc=>by
  simp only[Og] at h
  split at h
  .rename_i r e1 rs' e2 h1 h2
   simp at h;obtain⟨rfl,rfl⟩:=h
   obtain⟨g1,g2⟩:=eW he
   cases us with
   |nil=>exact hc.elim
   |cons u us=>exact⟨[],[],rfl,T8 hG hN hb h1 g1 hc.1,PQ h2 g2 hc.2⟩
  cases h
theorem YY {t:T} {rs:List RV} {e:Lac} (h:fzT nw t=some (rs,e)) (he:Eqs e) (hc:cvT E w t u):Bg w G base rs u []:=by
 cases t with
 |v v=>
  simp only[fzT] at h
  split at h
  .rename_i r' e' h1;simp at h;obtain⟨rfl,rfl⟩:=h;exact T8 hG hN hb h1 he hc
  cases h
 |any=>cases h
 |tup ts=>
  match ts,h,hc with
  |[],h,_=>cases h
  |[_],h,_=>cases h
  |a::b::vs,h,hc=>
   obtain⟨arr,hu,hc⟩:=hc
   have h:Og nw (a::b::vs)=some (rs,e):=h
   have key:=PQ hG hN hb (base:=base) h he hc
   have hlen:∃x y zs,rs=x::y::zs:=by
    simp only[Og] at h
    split at h
    .rename_i r e1 rs' e2 h1 h2
     split at h2
     .rename_i r' e1' rs'' e2' h1' h2'
      simp at h2 h;obtain⟨rfl,rfl⟩:=h2;obtain⟨rfl,rfl⟩:=h;exact⟨_,_,_,rfl⟩
     cases h2
    cases h
   obtain⟨x,y,zs,rfl⟩:=hlen
   exact⟨arr,hu,key⟩
end
def Qp:Laa->Bool
 |[]=>true
 |(l,_)::r=>!rsv l&&Qp r
theorem MG {l:Nat} {y:Ob}:∀{nw:Laa},Qp nw=true->go nw l=some y->rsv l=false
 |[],_,h=>by cases h
 |(k,z)::r,h0,h=>by
  simp only[Qp,v0,aay] at h0
  by_cases e:k=l
  .subst e;exact h0.1
  rw[bY _ _ e] at h;exact MG h0.2 h
theorem FnV.frzW {t':TypeId} {cs cs':List C} {args:List T} {res:List RV} {e:Lac} (h:FnV P f [(200,.var t cs)] args [(200,.var t' cs')] out nw) (hf:cs'.all C.free=true) (hz:fzT nw out=some (res,e)) (he:Eqs e) (hn:Qp nw=true):
 FnW P f (.var t cs) args (.var t' cs') res:=by
 refine⟨h.enters,λF w vals b c hF hb hT hs hx hA=>?_⟩
 have hbF:¬F b:=by
  obtain⟨b',c',arr,k1,k2,k3,k4⟩:=hx
  simp[E0] at k1;obtain⟨rfl,rfl⟩:=k1
  exact k4
 have hr0:∀o p,(E0 b c F).r o=some p↔o=200/\p=(b,c):=λo p=>by
  show(if o=200 then some (b,c) else none)=some p↔_
  split
  .rename_i h;simp[h,eq_comm]
  rename_i h;simp[h]
 have hI:VIn (E0 b c F) w:=⟨hF,λ_ h=>h.elim,λo b' c' h=>by
  obtain⟨rfl,e⟩:=(hr0 _ _).1 h;cases e;exact⟨hb,rfl,hbF⟩,λo o' b' c1 c2 h h'=>by rw[((hr0 _ _).1 h).1,((hr0 _ _).1 h').1],λ_ _ h=>h,λ_ h=>h⟩
 refine(h.calls (E0 b c F) w vals hI hT (λk hk o c' h=>by obtain⟨_,e⟩:=(hr0 _ _).1 h;cases e;exact hs b hk rfl) (λl x h=>?_) hA).mono ?_
 .by_cases el:200=l
  .subst el;rw[cW] at h;cases h;exact hx
  rw[bY _ _ el] at h;cases h
 rintro en w' ⟨v,E',hen,vo,hv,hys,hnw⟩
 refine⟨v,λk=>(E'.F k/\w.heap.size<=k)\/(w.heap.size<=k/\k<w'.heap.size/\js w' k/\∃l y c,go nw l=some y/\E'.r l=some (k,c)),[],hen,⟨vo.past.os,vo.past.tape,vo.past.output,vo.past.size,λk hk hW=>vo.past.block k hk (λ⟨o,c',ho⟩=>hW (by obtain⟨_,e⟩:=(hr0 _ _).1 ho;cases e;rfl))⟩,λk hk=>?_,?_,by simp,?_⟩
 .rcases hk with⟨h1,h2⟩|⟨h1,h2,h3,_⟩
  .refine⟨h2,vo.fb k h1,?_⟩
   rcases vo.f0 k h1 with h|h
   .have:=hF k h;omega
   exact h.2
  exact⟨h1,h2,h3⟩
 .refine YY (λk hk=>.inl ⟨vo.gf k hk,(vo.g0 k hk).resolve_right (λh=>h.elim)⟩) hnw (λl y k c' hg hr hp=>?_) hz he hv
  obtain⟨q1,q2⟩:=vo.rb l k c' hr
  exact .inr ⟨q2.resolve_right (λq=>by rw[MG hn hg] at q;cases q.2),q1,hp,l,y,c',hg,hr⟩
 obtain⟨b',c',arr,k1,k2,k3,k4⟩:=hys 200 _ (cW _ _ _)
 have hp:=vo.pin 200 _ rfl k1
 obtain⟨_,ep⟩:=(hr0 _ _).1 hp;cases ep
 refine⟨b,c,arr,by simp[E1],k2,JO (E:=E') (λg k hk=>?_) (λ_ _ _=>rfl) hf k3,?_⟩
 .have hFk:∀k,E'.F k->F k\/(E'.F k/\w.heap.size<=k):=λk hk=>(vo.f0 k hk).imp id (λh=>⟨hk,h.1⟩)
  cases g with
  |false=>
   show F k\/_
   rcases hFk k hk with h|h
   .exact .inl h
   exact .inr (.inl h)
  |true=>
   exact .inl ⟨vo.gf k hk,(vo.g0 k hk).resolve_right (λh=>h.elim)⟩
 rintro(h1|⟨h1,h2⟩|⟨h1,_⟩)
 .exact hbF h1
 .omega
 omega
def upC:C->C
 | .d false (.l xs)=>.d true (.l xs)
 |c=>c
def Z4:List C->List C
 |[]=>[]
 |c::cs=>upC c::Z4 cs
def upV:V->V
 | .c c=>.c (upC c)
 | .agg cs=>.agg (Z4 cs)
def Z6:List V->List V
 |[]=>[]
 |c::cs=>upV c::Z6 cs
def upT:T->T
 | .v v=>.v (upV v)
 | .tup vs=>.tup (Z6 vs)
 | .any=>.any
section
variable {E E':Env} {w:World} (hr:∀o p,E.r o=some p->E'.r o=some p) (hn:∀o,E'.n o↔E.n o) (hF:∀b,E.F b->E'.F b) (hG:∀b,E.G b->E'.G b) (hFG:∀b,E.F b->E'.G b) (hT:E'.T=E.T) (hZ:E'.Z=E.Z)
include hr hn hF hG hFG hT hZ
theorem V1 {c:C} (h:cvC E w c u):cvC E' w (upC c) u:=by
 have kp:kE E w E' w\/True:=.inr trivial
 cases c with
 |d g x=>
  cases g with
  |false=>
   cases x with
   |l xs=>exact cT (λ_ _=>rfl) hFG _ _ h
   |i k n=>exact cT (λ_ _=>rfl) hF _ _ h
   |b n=>exact cT (λ_ _=>rfl) hF _ _ h
   |str n=>exact cT (λ_ _=>rfl) hF _ _ h
   |k A n c=>exact cT (λ_ _=>rfl) hF _ _ h
  |true=>exact cT (λ_ _=>rfl) hG _ _ h
 |w o n=>obtain⟨b,c,h1,h2⟩:=h;exact⟨b,c,hr _ _ h1,h2⟩
 |s o sz off len=>obtain⟨A,c,b,k,h1,h2⟩:=h;exact⟨A,c,b,k,hr _ _ h1,h2⟩
 |p o k=>obtain⟨b,c,h1,h2⟩:=h;exact⟨b,c,hr _ _ h1,h2⟩
 |e o sz i j=>obtain⟨b,c,h1,h2⟩:=h;exact⟨b,c,hr _ _ h1,h2⟩
 |q g y j=>
  obtain⟨b,k,h1,h2,h3⟩:=h
  cases g with
  |false=>exact⟨b,k,h1,hF b h2,rdL_mono (λ_ _=>rfl) hF _ _ _ h2 h3⟩
  |true=>exact⟨b,k,h1,hG b h2,rdL_mono (λ_ _=>rfl) hG _ _ _ h2 h3⟩
 |fn f=>exact h
 |nil=>exact h
 |any=>trivial
 |r l x=>exact cT (λ_ _=>rfl) (λb hb=>by rw[hT];exact hb) _ _ h
 |z x=>exact vA (λ_ _=>sb.refl _ _) (λb hb=>by rw[hZ];exact hb) _ _ h
 |zq y j=>obtain⟨b,k,h1,h2,h3⟩:=h;exact⟨b,k,h1,by rw[hZ];exact h2,rsL_mono (λ_ _=>sb.refl _ _) (λb hb=>by rw[hZ];exact hb) _ _ _ h2 h3⟩
 |wn o n=>
  rcases h with⟨h1,h2⟩|⟨h1,b,c,h2,h3⟩
  .exact .inl ⟨(hn o).2 h1,h2⟩
  exact .inr ⟨λk=>h1 ((hn o).1 k),b,c,hr _ _ h2,h3⟩
theorem QZ:∀{cs:List C} {us:Lae},CV E w cs us->CV E' w (Z4 cs) us
 |[],[],_=>trivial
 |c::cs,u::us,h=>⟨V1 hr hn hF hG hFG hT hZ h.1,QZ h.2⟩
 |[],_::_,h=>h.elim
 |_::_,[],h=>h.elim
theorem V2 {v:V} (h:cvV E w v u):cvV E' w (upV v) u:=by
 cases v with
 |c c=>exact V1 hr hn hF hG hFG hT hZ h
 |agg cs=>obtain⟨arr,hu,h⟩:=h;exact⟨arr,hu,QZ hr hn hF hG hFG hT hZ h⟩
theorem Q0:∀{cs:List V} {us:Lae},VV E w cs us->VV E' w (Z6 cs) us
 |[],[],_=>trivial
 |c::cs,u::us,h=>⟨V2 hr hn hF hG hFG hT hZ h.1,Q0 h.2⟩
 |[],_::_,h=>h.elim
 |_::_,[],h=>h.elim
theorem Z5 {t:T} (h:cvT E w t u):cvT E' w (upT t) u:=by
 cases t with
 |v v=>exact V2 hr hn hF hG hFG hT hZ h
 |tup vs=>obtain⟨arr,hu,h⟩:=h;exact⟨arr,hu,Q0 hr hn hF hG hFG hT hZ h⟩
 |any=>trivial
end
def dnC:C->Option C
 | .d true (.l xs)=>some (.d false (.l xs))
 | .d g (.i k n)=>some (.d g (.i k n))
 | .d g (.b x)=>some (.d g (.b x))
 | .d g (.str s)=>some (.d g (.str s))
 | .nil=>some .nil
 | .fn f=>some (.fn f)
 |_=>none
theorem YQ {E':Env} (hG:∀b,E.G b->E'.F b) {c c':C} (h:dnC c=some c') (hc:cvC E w c u):cvC E' w c' u:=by
 cases c with
 |d g x=>
  cases x with
  |l xs=>
   cases g with
   |false=>cases h
   |true=>cases h;exact cT (λ_ _=>rfl) hG _ _ hc
  |i k n=>cases g<;>(cases h;simpa [cvC,rdD] using hc)
  |b n=>cases g<;>(cases h;simpa [cvC,rdD] using hc)
  |str n=>cases g<;>(cases h;simpa [cvC,rdD] using hc)
  |k A n c=>cases g<;>cases h
 |nil=>cases h;exact hc
 |fn f=>cases h;exact hc
 |_=>simp[dnC] at h
theorem SS {f:C->Option C} {E E':Env} {w w':World} (hf:∀c c' u,f c=some c'->cvC E w c u->cvC E' w' c' u):∀{ts ts':List T} {us:Lae},xD f ts=some ts'->TV E w ts us->TV E' w' ts' us
 |[],ts',us,h,hv=>by
  simp[xD] at h;subst h
  cases us with
  |nil=>trivial
  |cons _ _=>exact hv.elim
 |t::ts,ts',us,h,hv=>by
  simp only[xD] at h
  split at h
  .rename_i h1 h2
   simp at h;subst h
   cases us with
   |nil=>exact hv.elim
   |cons u us=>exact⟨Ce hf h1 hv.1,SS hf h2 hv.2⟩
  cases h
theorem FnV.up {args args':List T} {out':T} (h:FnV P f [] args [] out nw) (ha:xD dnC args'=some args) (ho:upT out=out'):FnV P f [] args' [] out' nw:=by
 subst ho
 refine⟨h.enters,λE w vals hI ht hs hx hA=>?_⟩
 obtain⟨E0,hE0⟩:∃E0:Env,E0={E with F:=E.G}:=⟨_,rfl⟩
 have e_r:E0.r=E.r:=by subst hE0;rfl
 have e_F:E0.F=E.G:=by subst hE0;rfl
 have e_G:E0.G=E.G:=by subst hE0;rfl
 have e_T:E0.T=E.T:=by subst hE0;rfl
 have e_Z:E0.Z=E.Z:=by subst hE0;rfl
 have hI0:VIn E0 w:=⟨λb hb=>hI.fb b (hI.gf b (by rw[e_F] at hb;exact hb)),λb hb=>by rw[e_G] at hb;rw[e_F];exact hb,λo b c hr=>by
  rw[e_r] at hr
  obtain⟨k1,k2,k3⟩:=hI.rb o b c hr
  exact⟨k1,k2,by rw[e_F];exact λhg=>k3 (hI.gf b hg)⟩,by rw[e_r];exact hI.inj,by rw[e_T];exact hI.T,by rw[e_Z];exact hI.Z⟩
 refine(h.calls E0 w vals hI0 ht (by rw[e_r];exact hs) (λl x hg=>by cases hg) (SS (λc c' u hc hv=>YQ (λb hb=>by rw[e_F];exact hb) hc hv) ha hA)).mono ?_
 rintro e w' ⟨v,E',he,vo,hv,_,hnw⟩
 have f0:∀b,E'.F b->E.G b\/(w.heap.size<=b/\js w' b):=λb hb=>by have:=vo.f0 b hb;rwa [e_F] at this
 have hr0:∀o b c,E'.r o=some (b,c)->b<w'.heap.size/\(w.heap.size<=b\/((∃o' c',E.r o'=some (b,c'))/\rsv o=true)):=λo b c hr=>by have:=vo.rb o b c hr;rwa [e_r] at this
 refine⟨v,{E' with F:=λb=>E'.F b\/E.F b,G:=E'.F},he,⟨by have:=vo.past;rwa [e_r] at this,λb hb=>hb.elim (vo.fb b) (λhb=>aau (hI.fb b hb) vo.past.size),λb hb=>hb.elim (λhb=>(f0 b hb).imp (hI.gf b) id) .inl,λb hb=>.inr hb,λb hb=>vo.F b (by rw[e_F];exact hb),λb hb=>.inl hb,λb hb=>(f0 b hb).elim .inr (λk=>.inl k.1),hr0,vo.inj,λo x ho hx'=>by have:=vo.pin o x ho hx';rwa [e_r] at this⟩,
  Z5 (E:=E') (E':={E' with F:=λb=>E'.F b\/E.F b,G:=E'.F}) (λ_ _ h=>h) (λ_=>Iff.rfl) (λb hb=>.inl hb) (λb hb=>vo.gf b hb) (λb hb=>hb) rfl rfl hv,λl y hg=>(by cases hg),λl y hg=>?_⟩
 have hk:kE E' w' {E' with F:=λb=>E'.F b\/E.F b,G:=E'.F} w':=⟨λ_ _ h=>h,λg b hb=>by cases g;exact .inl hb;exact vo.gf b hb,λ_ _ _=>rfl,λ_ _ h=>⟨h,rfl⟩,λ_ h=>⟨h,.refl _ _⟩,rfl⟩
 refine gN hk (λ_ _ _=>rfl) (λb c hr hn hF=>hF.elim hn (λhb=>?_)) (hnw l y hg)
 rcases(hr0 l b c hr).2 with k|⟨⟨o',c',k⟩,_⟩
 .have:=hI.fb b hb;omega
 exact(hI.rb o' b c' k).2.2 hb
section
variable {P:Program} {d:Tmp} {ty:TypeId} {ps:String} {af:Array Edge} {gd:Option (Nat×Bool)} {x y:Operand}
theorem Iq {t:Nat} {g2:Bool} {o:Nat} {rt:TypeId} {hi:Operand} [ht:TySl P t e sz by_] (hn:els.length=n) (h0:0<=h) (h2:h<=n):
 AWN P ⟨some d,.slice t x none (some hi) none,ty,ps,af,gd⟩ [(x,.v (.c (.w o n))),(hi,.v (.c (.d g2 (.i .i64 h))))] [(o,.row rt sz els g m)] (.v (.c (.w o h.toNat))) []:=
 cH λE ac w hne hob=>by
  have k1:=hne x _ (.head _)
  have k3:=iN (hne hi _ (.tail _ (.head _)))
  obtain⟨b,c,hr,hu⟩:=k1
  obtain⟨b',c',arr,hr',_,_,hlc,_⟩:=hob o _ (.head _)
  rw[hr] at hr';cases hr'
  obtain⟨i,z,hi1,hi2,_⟩:=ht.i
  obtain⟨he,hu'⟩:=BM ht.u
  refine⟨sliced (some ⟨b,0,none⟩) 0 h.toNat c sz,?_,?_⟩
  .simp[execOp,hu,k3,run_sliceAt_slice w t _ _ _ _ hu',run_slice_h w t (some ⟨b,0,none⟩) n c hu' .i64 h h0 oaa,he,fc hi1,hi2]
  exact⟨b,c,hr,by simp[sliced,vW]⟩
theorem Kp {o:Nat} {ys:Lad} {c:C} [ht:TySl P t e sz by_] (hrv:rsv o=false)
 (ho:go nob o=some (.row e sz els g true)) (hs:Src nob c ys gy) (hn:n<=els.length) (hsz:∀e∈ys,e.length=sz) (hb:(n+ys.length)*by_<=140737488355328) (h63:n+ys.length<=9223372036854775807):
 AWK P ⟨some d,.call ⟨.builtin .append,#[x,y],#[t,t]⟩,ty,ps,af,gd⟩ [(x,.v (.c (.w o n))),(y,.v (.c c))] nob (.v (.c (.w q (n+ys.length)))) [(q,.row e sz (els.take n++ys) (g&&gy) true)] [] (some o):=by
 intro cx E a w ok hne hnob hfr
 have hob:∀l x,go nob l=some x->de E w l x:=λl x h=>hnob l x (AZ h)
 obtain⟨hq1,hq2⟩:=hfr q _ (.head _)
 have h1:cvT E w (.v (.c (.w o n))) (a.eval x):=hne x _ (.head _)
 have h2:cvT E w (.v (.c c)) (a.eval y):=hne y _ (.tail _ (.head _))
 obtain⟨b,cc,hr,hu⟩:=h1
 obtain⟨b',c',arr,hr',hh,ha,hlc,hmx,hes,hrd,hFm,_⟩:=hob o _ ho
 rw[hr] at hr';cases hr'
 have hF:=hFm rfl
 have hesT:∀e'∈els.take n,e'.length=sz:=λe' he'=>hes e' (aaC he')
 have hrdT:=pC n hrd
 have hnT:(els.take n).length=n:=by simp;omega
 have hoq:o≠q:=λe=>by rw[e,hq1] at hr;cases hr
 obtain⟨A,k,hv,hyk,hA⟩:=Fy hob hs h2
 obtain⟨ii,zz,i1,i2,i3,i4,i5⟩:=ht.i
 have hbl:=(ok.rb o b cc hr)
 have hown:w.ownsRow 0 e sz (.slice (some ⟨b,0,none⟩) n cc) n (arr.toList.take (n*sz)):=
  ⟨by simp[ha];rw[aaG oaa],.inr ⟨b,cc,arr,rfl,aat _,hh,by omega,hmx,ha,rfl⟩⟩
 have hsrc:∃news:Lae,news.length=ys.length*sz/\(∀u∈news,u.oneCell'=true)/\(∀(j:Nat) (xd:D),ys.flatten[j]?=some xd->∃u,news[j]?=some u/\rdD w (E.H gy) xd u)/\
  ∃v' w',(Builtin.append_ #[t,t] ty #[.slice (some ⟨b,0,none⟩) n cc,.slice A ys.length k]).run P w= .ok v' w'/\w'.ownsRow 0 e sz v' (n+ys.length) (arr.toList.take (n*sz)++news)/\w.grownBy w' (some b)/\v'≠.slice none 0 0/\(v'.ownBlock=some b\/v'.ownBlock=some w.heap.size):=by
  have hgood:∀ad,A=some ad->∀news:Lae,news.length=ys.length*sz->(∀(j:Nat) (u:Value),news[j]?=some u->w.cell? (ad.add j)=some u)->(∀u∈news,u.oneCell'=true)->
   ∃v' w',(Builtin.append_ #[t,t] ty #[.slice (some ⟨b,0,none⟩) n cc,.slice A ys.length k]).run P w= .ok v' w'/\w'.ownsRow 0 e sz v' (n+ys.length) (arr.toList.take (n*sz)++news)/\w.grownBy w' (some b)/\v'≠.slice none 0 0/\(v'.ownBlock=some b\/v'.ownBlock=some w.heap.size):=by
   intro ad hAd news n1 n2 n3
   obtain⟨v',w',r1,r2,r3,r4,r5⟩:=run_append_own_at (P:=P) w 0 t ty e ii zz sz by_ ht.u i1 i4 i2 i3 i5 ht.p _ n _ hown ad ys.length k news n1 n2 n3 (by unfold maxLen;omega) hb (aat _)
   exact⟨v',w',by rw[hAd];exact r1,r2,r3,(λh=>by have h9:=(r4.1 h).1;simp at h9),r5⟩
  rcases hA with h0|⟨b2,off,rfl,hrd2⟩
  .subst h0
   refine⟨[],by simp,by simp,by simp,?_⟩
   cases A with
   |none=>exact⟨_,w,sS w ht.u i1 hown k,by simpa using hown,⟨rfl,rfl,rfl,aai _,λ_ _ _=>rfl⟩,by simp,.inl rfl⟩
   |some ad=>exact hgood ad rfl [] (by simp) (by simp) (by simp)
  obtain⟨us,q1,q2,q3,q4⟩:=vz (fD.1 hrd2)
  exact⟨us,by rw[q1,gH hsz],q3,q4,hgood _ rfl us (by rw[q1,gH hsz]) q2 q3⟩
 obtain⟨news,n1,n2,n3,v',w',r1,r2,r3,r4,r5⟩:=hsrc
 obtain⟨_,r2⟩:=r2
 rcases r2 with⟨rfl,_⟩|⟨bn,cap,cur,rfl,_,hhn,hcap,hcapm,hcur,htk⟩
 .exact absurd rfl r4
 unfold Oper.wp
 simp only[execOp,resolve,invoke,builtin,Sem.run_bind,Sem.run_pure,Result.andThen_ok,abo,aaA,abe,hu,hv,r1,Oper.upon_value]
 have hbn:bn=b\/bn=w.heap.size:=by simpa [Value.ownBlock] using r5
 have hsame:∀k,k<w.heap.size->k≠b->w'.heap[k]?=w.heap[k]?:=λk hk hne=>r3.block k hk (λe=>hne (by injection e))
 have hnF:¬E.F bn:=by
  rcases hbn with rfl|rfl
  .exact hF
  exact λh=>by have:=ok.fb _ h;omega
 have hbig:bn<w'.heap.size:=by
  rcases aaq bn w'.heap.size with h|h
  .exact h
  rw[aax h] at hhn;cases hhn
 have hnew:∀l bl cl,l≠o->E.r l=some (bl,cl)->bl≠bn:=by
  intro l bl cl hne hl e
  subst e
  rcases hbn with h|h
  .subst h;exact hne (ok.inj l o _ _ _ hl hr)
  have:=(ok.rb l bl cl hl).1;omega
 have hHb:∀g k,E.H g k->k≠b/\k<w.heap.size:=λg k hk=>⟨λe=>by subst e;cases g;exact hF hk;exact hF (ok.gf _ hk),ok.hb hk⟩
 have kH:∀(g:Bool) (k:Nat),E.H g k->w'.heap[k]?=w.heap[k]?:=λg k hk=>hsame k (hHb g k hk).2 (hHb g k hk).1
 have kI:∀(g:Bool) (k:Nat),E.H g k->(E.mv o q bn cap).H g k:=λ_ _ h=>h
 have hbnew:cx.w0.heap.size<=b:=by
  rcases hbl.2 with h|h
  .exact h
  rw[hrv] at h;cases h.2
 have hmv:∀l bl cl,(E.mv o q bn cap).r l=some (bl,cl)->(l=q/\bl=bn/\cl=cap)\/(l≠q/\l≠o/\E.r l=some (bl,cl)):=by
  intro l bl cl hl
  simp only[Env.mv] at hl
  split at hl
  .cases hl;exact .inl ⟨by assumption,rfl,rfl⟩
  split at hl
  .cases hl
  exact .inr ⟨by assumption,by assumption,hl⟩
 refine⟨_,E.mv o q bn cap,rfl,⟨λk hk=>aau (ok.fb k hk) r3.size,ok.gf,ok.gn,λl bl cl hl=>?_,λl l' bl cl cl' hl hl'=>?_,by rw[r3.os];exact ok.os,by rw[r3.tape];exact ok.tape,by rw[r3.output];exact ok.output,Nat.le_trans ok.size r3.size,λk hk hW=>?_,λl xx hv hl=>?_,ok.ff,λk hk hk'=>(ok.gc k hk hk').of_eq (hsame k (hHb false k hk).2 (hHb false k hk).1),ok.sf.turn hr rfl rfl (λ_ h=>.inl h) (λl bl cl hl=>?_) r3.size hsame⟩,
  ⟨λl xx hl hlr=>?_,λ_ h=>h,λ_ h=>h,λ_ h=>.inl h,λk hk _ hkl=>hsame k hk (λe=>hkl o cc rfl (e▸hr)),(λ_ _ _ _ h=>by cases h),λl bl cl hl hlr=>?_,rfl,rfl,rfl⟩,⟨bn,cap,by simp[Env.mv],rfl⟩,λl ob hm=>?_,(λ_ _ h=>by cases h),λl xx hl=>?_⟩
 .rcases hmv l bl cl hl with⟨_,rfl,rfl⟩|⟨_,_,hl⟩
  .refine⟨hbig,.inl ?_⟩
   rcases hbn with h|h
   .rw[h];exact hbnew
   rw[h];exact ok.size
  have:=ok.rb l bl cl hl;exact⟨aau this.1 r3.size,this.2⟩
 .rcases hmv l bl cl hl with⟨h1,h2,h3⟩|⟨h1,h2,h3⟩<;>rcases hmv l' bl cl' hl' with⟨k1,k2,k3⟩|⟨k1,k2,k3⟩
  .omega
  .exact absurd h2 (hnew l' _ _ k2 k3)
  .exact absurd k2 (hnew l _ _ h2 h3)
  exact ok.inj l l' bl cl cl' h3 k3
 .rw[hsame k (by have:=ok.size;omega) oaa];exact ok.block k hk hW
 .obtain⟨bl,cl⟩:=xx
  rcases hmv l bl cl hl with⟨rfl,_⟩|⟨_,_,hl⟩
  .rw[rC hq2] at hv;cases hv
  exact ok.pin l _ hv hl
 .rcases hmv l bl cl hl with⟨_,rfl,_⟩|⟨_,_,hl⟩
  .rcases hbn with h|h
   .left;exact⟨o,_,h▸hr⟩
   right;omega
  exact .inl ⟨l,cl,hl⟩
 .simp only[Env.mv]
  rw[if_neg (λe=>by rw[e,hq1] at hlr;cases hlr),if_neg (λe=>hl (by rw[e]))]
  exact hlr
 .cases hl
  rw[hr] at hlr;cases hlr;exact hF
 .simp at hm;obtain⟨rfl,rfl⟩:=hm
  have hall:∀e'∈els.take n++ys,e'.length=sz:=λe' he'=>by
   rcases aad.1 he' with h|h
   .exact hesT e' h
   exact hsz e' h
  refine⟨bn,cap,cur,by simp[Env.mv],hhn,hcur,by simp;omega,hcapm,hall,?_,λ_=>hnF,λh=>by cases h⟩
  rw[fD]
  refine oF λj xd hj=>?_
  rw[aak,eX hhn]
  rw[abf] at hj
  have hfl:(els.take n).flatten.length=n*sz:=by rw[gH hesT,hnT]
  have hxs:(arr.toList.take (n*sz)).length=n*sz:=by simp[ha];rw[aaG oaa]
  have hcurj:∀u,(arr.toList.take (n*sz)++news)[j]?=some u->cur[j]?=some u:=by
   intro u hu
   rw[<-htk,aaw] at hu
   split at hu
   .simpa using hu
   cases hu
  by_cases hjn:j<n*sz
  .rw[aam oaa] at hj
   obtain⟨u,u1,u2⟩:=ni (fD.1 hrdT) hj
   rw[aak,eX hh] at u1
   refine⟨u,hcurj u ?_,cT (kH _) (kI _) _ _ (pc ok u2 (by simp;intro a _;exact a))⟩
   rw[aam oaa,aaw,if_pos hjn]
   simpa using u1
  rw[aap oaa,hfl] at hj
  obtain⟨u,u1,u2⟩:=n3 _ _ hj
  refine⟨u,hcurj u ?_,cT (kH _) (kI _) _ _ (pc ok u2 (by simp))⟩
  rw[aap oaa,hxs]
  exact u1
 obtain⟨bl,cl⟩:=xx
 rcases hmv l bl cl hl with⟨rfl,_⟩|⟨_,_,hl⟩
 .exact .inr ⟨_,.head _⟩
 exact .inl hl
end
section
variable {P:Program} {N:Nat} {d:Tmp} {ty:TypeId} {ps:String} {af:Array Edge} {gd:Option (Nat×Bool)} {x y:Operand} {sl:Lab} {ob:Laa} {nx:Nat} {α:Type} {enc:α->List D}
theorem cwfT {t:Nat} {g2:Bool} {o:Nat} {ys:List α} {rt:TypeId} {hi:Operand} [ht:TySl P t e sz by_] (H:eT ys 0 h=true) (hn:ys.length=n) (hx:opT sl x= .v (.c (.w o n))) (ho:go ob o=some (.row rt sz (ys.map enc) g m)) (hh:opT sl hi= .v (.c (.d g2 (.i .i64 h)))) (hN:nlt d N=true):
 NS0 P N ⟨some d,.slice t x none (some hi) none,ty,ps,af,gd⟩ sl ob nx d (.v (.c (.w o h.toNat))) ⟨d,[(x,.v (.c (.w o n))),(hi,.v (.c (.d g2 (.i .i64 h))))],[(o,.row rt sz (ys.map enc) g m)],.v (.c (.w o h.toNat)),[]⟩:=by
 simp only[eT,decide_eq_true_eq] at H
 exact dS (st:=⟨sl,ob,nx⟩) (Iq (by simpa using hn) H.2.1 oaa) rfl hN ⟨hx,hh,trivial⟩ ⟨ho,trivial⟩ rfl
theorem apxP {o:Nat} {ys zs:List α} {gg:Bool} {c:C} (ls:List Nat) [TySl P t e sz by_] (H0:eT ys 0 h=true) (H:c8 by_ (ys.take h.toNat++zs).length=true) (hzd:zs.map enc=zd) (henc:∀a,(enc a).length=sz)
 (hp:xE ob ls=some nob) (hs:Src nob c zd gy) (hd:nlt d N=true) (hx:opT sl x= .v (.c (.w o h.toNat))) (hy:opT sl y= .v (.c c)) (ho:go nob o=some (.row e sz (ys.map enc) g true)) (hg:(g&&gy)=gg) (hrv:rsv o=false) (hnx:nxt nx=some nx'):
 NX P N ⟨some d,.call ⟨.builtin .append,#[x,y],#[t,t]⟩,ty,ps,af,gd⟩ ⟨sl,ob,nx⟩ ⟨(d,.v (.c (.w nx (ys.take h.toNat++zs).length)))::sl,(nx,.row e sz ((ys.take h.toNat++zs).map enc) gg true)::ob,nx'⟩
  ⟨⟨d,[(x,.v (.c (.w o h.toNat))),(y,.v (.c c))],nob,.v (.c (.w nx (ys.take h.toNat++zs).length)),[(nx,.row e sz ((ys.take h.toNat++zs).map enc) gg true)]⟩,[],some o⟩:=by
 subst hzd;subst hg
 simp only[eT,decide_eq_true_eq] at H0
 have hle:h.toNat<=ys.length:=by omega
 have hl:(ys.take h.toNat++zs).length=h.toNat+zs.length:=by simp;omega
 simp only[c8,decide_eq_true_eq,hl] at H
 have:=Kp (P:=P) (d:=d) (ty:=ty) (ps:=ps) (af:=af) (gd:=gd) (x:=x) (y:=y) (t:=t) (e:=e) (sz:=sz) (by_:=by_) (q:=nx) (n:=h.toNat) hrv ho hs (by simpa using hle) (Kt henc zs) (by simp only[aaz];exact H.1) (by simp only[aaz];omega)
 rw[<-abp,<-abc,aaz,<-hl] at this
 exact⟨this,.inl ⟨rfl,dx hd⟩,⟨hx,hy,trivial⟩,vw hp,pz hnx,rfl⟩
theorem apxPF {o:Nat} {ys zs:List α} {c:C} (ls:List Nat) [TySl P t e sz by_] (H0:eT ys 0 h=true) (H:c8 by_ (ys.take h.toNat++zs).length=true) (hzd:zs.map enc=zd) (henc:∀a,(enc a).length=sz) (hfl:∀a,xu (enc a)=true)
 (hp:xE ob ls=some nob) (hs:Src nob c zd gy) (hd:nlt d N=true) (hx:opT sl x= .v (.c (.w o h.toNat))) (hy:opT sl y= .v (.c c)) (ho:go nob o=some (.row e sz (ys.map enc) g true)) (hrv:rsv o=false) (hnx:nxt nx=some nx'):
 NX P N ⟨some d,.call ⟨.builtin .append,#[x,y],#[t,t]⟩,ty,ps,af,gd⟩ ⟨sl,ob,nx⟩ ⟨(d,.v (.c (.w nx (ys.take h.toNat++zs).length)))::sl,(nx,.row e sz ((ys.take h.toNat++zs).map enc) true true)::ob,nx'⟩
  ⟨⟨d,[(x,.v (.c (.w o h.toNat))),(y,.v (.c c))],nob,.v (.c (.w nx (ys.take h.toNat++zs).length)),[(nx,.row e sz ((ys.take h.toNat++zs).map enc) true true)]⟩,[],some o⟩:=by
 obtain⟨h1,h2,h3,h4,h5,h6⟩:=apxP (P:=P) (N:=N) (t:=t) (x:=x) (y:=y) (enc:=enc) (d:=d) (ty:=ty) (ps:=ps) (af:=af) (gd:=gd) (sl:=sl) (ob:=ob) (nx:=nx) ls H0 H hzd henc hp hs hd hx hy ho rfl hrv hnx
 refine⟨?_,h2,h3,h4,pz hnx,rfl⟩
 intro cx E a w ok hne hnob hfr
 refine Oper.wp_mono ?_ (h1 cx E a w ok hne hnob (λl x hm=>by simp at hm;obtain⟨rfl,_⟩:=hm;exact hfr _ _ (.head _)))
 rintro a' w' ⟨v,E',k1,k2,k3,k4,k5,k6,k7⟩
 refine⟨v,E',k1,k2,k3,k4,λl x hm=>?_,k6,λl x hl=>(k7 l x hl).imp id (λ⟨x',hm⟩=>by simp at hm;obtain⟨rfl,_⟩:=hm;exact⟨_,.head _⟩)⟩
 simp at hm;obtain⟨rfl,rfl⟩:=hm
 obtain⟨b,c,arr,j1,j2,j3,j4,j5,j6,j7,j8,j9⟩:=k5 _ _ (.head _)
 refine⟨b,c,arr,j1,j2,j3,by simpa using j4,j5,by simpa using j6,?_,j8,λh=>by cases h⟩
 have:rdLL w' (E'.H true) ((ys.take h.toNat++zs).map enc) b 0:=zQ (λe he=>by obtain⟨a,_,rfl⟩:=aa8.1 he;exact hfl a) j7
 simpa using this
end
def nmO (d:Nat):Operand->Bool
 | .tmp t=>!d0 t d
 |_=>true
def RX (d:Nat):Op->Bool
 | .move x| .assign x| .nilCheck x| .fieldAddr _ x _| .field _ x _| .load _ x| .unOp _ _ x| .convert _ _ x| .extract x _=>nmO d x
 | .store _ x y| .indexAddr _ x y| .index _ x y| .binOp _ _ x y _=>nmO d x&&nmO d y
 | .buildSlice _ _ ps| .build _ ps=>ps.toList.all λp=>nmO d p.2
 | .call c=>(match c.callee with| .value x=>nmO d x| .builtin _=>true|_=>false)&&c.args.toList.all (nmO d)
 |_=>false
theorem Ze {d:Nat} {ρ ρ':Operand->Value} (hρ:∀x,nmO d x=true->ρ x=ρ' x) {l:Array Operand} (h:l.toList.all (nmO d)=true):l.map ρ=l.map ρ':=by
 apply abR
 intro x hx
 exact hρ x (aah.1 h x (by simpa using hx))
theorem W6 {d:Nat} {ρ ρ':Operand->Value} (hρ:∀x,nmO d x=true->ρ x=ρ' x) {l:Array (α×Operand)} (h:(l.toList.all λp=>nmO d p.2)=true):(l.map λ(i,x)=>(i,ρ x))=(l.map λ(i,x)=>(i,ρ' x)):=by
 apply abR
 rintro⟨i,x⟩ hx
 have:=hρ x (aah.1 h (i,x) (by simpa using hx))
 simp[this]
theorem Xj {d:Nat} {o:Oper} {ρ ρ':Operand->Value} (h:RX d o.op=true) (hρ:∀x,nmO d x=true->ρ x=ρ' x):execOp ρ o=execOp ρ' o:=by
 unfold execOp
 cases e:o.op with
 |move x|assign x|nilCheck x|fieldAddr _ x _|field _ x _|load _ x|unOp _ _ x|convert _ _ x|extract x _=>
  rw[e] at h;simp only[hρ x h]
 |store _ x y|indexAddr _ x y|index _ x y|binOp _ _ x y _=>
  rw[e] at h;simp only[RX,v0] at h;simp only[hρ x h.1,hρ y h.2]
 |buildSlice _ _ ps|build _ ps=>rw[e] at h;simp only[W6 hρ h]
 |call c=>
  rw[e] at h
  simp only[RX,v0] at h
  have h2:=Ze hρ h.2
  have:resolve ρ c o.type=resolve ρ' c o.type:=by
   unfold resolve
   rw[h2]
   cases e2:c.callee with
   |value x=>have h1:=h.1;rw[e2] at h1;simp only[hρ x h1]
   |builtin b=>rfl
   |invoke r n=>have h1:=h.1;rw[e2] at h1;cases h1
  simp only[this]
 |_=>first|rfl|(rw[e] at h;cases h)
section
variable {P:Program} {ops:Array Oper} {Q:Exit->Act->World->Prop}
theorem vy (a:Act) (o:Option Nat) (d:Nat) (u v:Value) (h:o≠some d):(a.put (some d) v).put o u=(a.put o u).put (some d) v:=by
 cases o with
 |none=>rfl
 |some k=>
  have hk:k≠d:=λe=>h (by rw[e])
  simp only[Act.put]
  congr 1
  exact abP _ _ (Ne.symm hk)
theorem TX {d:Nat} {v:Value} {x:Operand} (h:nmO d x=true):(a.put (some d) v).eval x=a.eval x:=by
 cases x with
 |tmp t=>
  have ht:t≠d:=λe=>by subst e;simp[nmO] at h
  show(a.tmps.setIfInBounds d v).getD t undef=a.tmps.getD t undef
  rw[aaD,aaD,aaV (Ne.symm ht)]
 |_=>rfl
theorem Wh {o:Oper} {d:Nat} {v:Value} {K K':Act->World->Prop} (hQ:∀e a w,Q e a w->e= .normal) (h:RX d o.op=true) (hd:o.dst≠some d) (hs:o.dst≠some s)
 (hK:∀a' w',a'.tmps.getD s undef=a.tmps.getD s undef->K (a'.put (some d) v) w'->K' a' w') (hh:o.wp P (a.put (some d) v) w K Q):o.wp P a w K' Q:=by
 have hput:∀(a0:Act) (u:Value),a0.tmps=a.tmps->(a0.put o.dst u).tmps.getD s undef=a.tmps.getD s undef:=λa0 u h0=>by
  rw[<-h0]
  cases e:o.dst with
  |none=>rfl
  |some k=>
   have hk:k≠s:=λe'=>hs (by rw[e,e'])
   show(a0.tmps.setIfInBounds k u).getD s undef=a0.tmps.getD s undef
   rw[aaD,aaD,aaV hk]
 unfold Oper.wp at*
 rw[Xj h (ρ':=a.eval) (λx hx=>TX hx)] at hh
 generalize hr:(execOp a.eval o).run P w=r at*
 cases r with
 |ok n w'=>
  cases n with
  |value u=>exact hK _ w' (hput a u rfl) (by rw[<-vy a o.dst d u v hd];exact hh)
  |skip=>exact hK _ w' (hput a undef rfl) (by rw[<-vy a o.dst d undef v hd];exact hh)
  |defer x=>exact hK _ w' (hput {a with defers:=x::a.defers} undef rfl) (by rw[<-vy _ o.dst d undef v hd];exact hh)
  |enter f args=>
   refine Calls.mono hh (λe w'' he=>?_)
   cases e with
   |returned u=>exact hK _ w'' (hput a u rfl) (by rw[<-vy a o.dst d u v hd];exact he)
   |panicked c=>have:=hQ _ _ _ he;cases this
   |outgrown=>exact he
  |row r args=>exact Rows.mono hh (λu w'' he=>hK _ w'' (hput a u rfl) (by rw[<-vy a o.dst d u v hd];exact he))
  |_=>exact hh.elim
 |halt x w'=>
  cases x with
  |panic u=>have:=hQ _ _ _ hh;cases this
  |_=>exact hh.elim
def JS (ops:Array Oper) (i0 d s:Nat):Prop:=∀j o,ops[j]?=some o->j≠i0->(∃e∈o.after,Region.binds .any e=true/\e.on=i0)\/(RX d o.op=true/\o.dst≠some d/\o.dst≠some s/\∀q b,o.guard=some (q,b)->(ops[q]?).bind (·.dst)≠some d)
theorem Pi {o:Oper} {d:Nat} {v:Value} (hg:∀q b,o.guard=some (q,b)->(ops[q]?).bind (·.dst)≠some d):Region.wanted o (yielded ops (a.put (some d) v).tmps)=Region.wanted o (yielded ops a.tmps):=by
 unfold Region.wanted
 cases e:o.guard with
 |none=>rfl
 |some qb=>
  obtain⟨q,b⟩:=qb
  have:=hg q b e
  have hy:yielded ops (a.put (some d) v).tmps q=yielded ops a.tmps q:=by
   unfold yielded
   cases e2:(ops[q]?).bind (·.dst) with
   |none=>rfl
   |some k=>
    have hk:d≠k:=λe'=>this (by rw[e2,e'])
    show(match(a.tmps.setIfInBounds d v)[k]? with|some (.bool b)=>some b|_=>none)=_
    rw[aaV hk]
    rfl
  simp only[hy]
theorem Gf {i0 d:Nat} {o0:Oper} {listed:Array Bool} (hQ:∀e a w,Q e a w->e= .normal) (ho:ops[i0]?=some o0) (hop:o0.op= .move (.tmp s)) (hod:o0.dst=some d) (hog:o0.guard=none) (hoa:o0.after= #[]) (hE:JS ops i0 d s) (hlt:i0<ops.size)
 (hsz:listed.size=ops.size) (hun:listed.getD i0 false=false) (hh:wpAny P .any ops Q n (listed.setIfInBounds i0 true) (a.put (some d) (a.tmps.getD s undef)) w)
 (h:∀i,(i∈Region.ready .any ops listed/\i≠i0/\i∈Region.ready .any ops (listed.setIfInBounds i0 true))->wpOp P ops Q i (wpAny P .any ops Q n (listed.setIfInBounds i true)) a w):wpAny P .any ops Q (n+1) listed a w:=by
 have hr0:i0∈Region.ready .any ops listed:=by
  rw[mem_ready]
  refine⟨?_,o0,ho,λe he=>by rw[hoa] at he;simp at he⟩
  rw[aaD,aas oaa] at hun ⊢
  simpa using hun
 refine⟨λh0=>(by rw[h0] at hr0;cases hr0),λi hi=>?_⟩
 by_cases hne:i=i0
 .subst hne
  unfold wpOp
  simp only[ho]
  rw[if_pos (by simp[Region.wanted,hog])]
  refine .inl ?_
  unfold Oper.wp execOp
  rw[hop]
  show wpAny P .any ops Q n _ (a.put o0.dst (a.tmps.getD s undef)) w
  rw[hod]
  exact hh
 refine h i ⟨hi,hne,?_⟩
 obtain⟨h1,h2,o,h3,h4⟩:=mz hsz hi
 rw[mem_ready]
 refine⟨?_,o,h3,λe he hb=>?_⟩
 .have:(listed.setIfInBounds i0 true).getD i false=false:=by rw[cE oaa,if_neg (Ne.symm hne)];exact h2
  rw[aaD,aas (by simp;omega)] at this ⊢
  simpa using this
 rw[cE oaa]
 split
 .rfl
 exact h4 e he hb
theorem NM {i0 d:Nat} {o0:Oper} (hQ:∀e a w,Q e a w->e= .normal) (ho:ops[i0]?=some o0) (hop:o0.op= .move (.tmp s)) (hod:o0.dst=some d) (hog:o0.guard=none) (hoa:o0.after= #[]) (hsd:s≠d) (hE:JS ops i0 d s):
 ∀(n:Nat) (listed:Array Bool) (a:Act) (w:World),listed.size=ops.size->listed.getD i0 false=false->wpAny P .any ops Q n (listed.setIfInBounds i0 true) (a.put (some d) (a.tmps.getD s undef)) w->wpAny P .any ops Q (n+1) listed a w:=by
 have hlt:i0<ops.size:=by
  rcases aaq i0 ops.size with h|h
  .exact h
  rw[aax h] at ho;cases ho
 intro n
 induction n with
 |zero=>
  intro listed a w hsz hun hh
  refine Gf hQ ho hop hod hog hoa hE hlt hsz hun hh (λi hi=>?_)
  have hi2:=hi.2.2;rw[hh.1] at hi2;cases hi2
 |succ n ih=>
  intro listed a w hsz hun hh
  refine Gf hQ ho hop hod hog hoa hE hlt hsz hun hh (λi hi=>?_)
  obtain⟨h1,h2,o,h3,h4⟩:=mz hsz hi.1
  have hne:=hi.2.1
  have hR:=hi.2.2
  have h5:=hh.2 i hR
  rcases hE i o h3 hne with⟨e,he,hb,hon⟩|⟨k1,k2,k3,k4⟩
  .have:=h4 e he hb;rw[hon,hun] at this;cases this
  have hs2:(listed.setIfInBounds i true).size=ops.size:=by simpa using hsz
  have hun2:(listed.setIfInBounds i true).getD i0 false=false:=by rw[cE oaa,if_neg hne];exact hun
  have key:∀a' w',a'.tmps.getD s undef=a.tmps.getD s undef->wpAny P .any ops Q n ((listed.setIfInBounds i0 true).setIfInBounds i true) (a'.put (some d) (a.tmps.getD s undef)) w'->wpAny P .any ops Q (n+1) (listed.setIfInBounds i true) a' w':=λa' w' hs' hk=>by
   refine ih _ a' w' hs2 hun2 ?_
   rw[hs',abP _ _ hne];exact hk
  unfold wpOp at h5 ⊢
  simp only[h3] at h5 ⊢
  rw[Pi k4] at h5
  split
  .rename_i hw
   rw[if_pos hw] at h5
   rcases h5 with h5|⟨_,a'',w'',h5⟩
   .exact .inl (Wh hQ k1 k2 k3 key h5)
   have:=hQ _ _ _ h5;cases this
  rename_i hw
  rw[if_neg hw] at h5
  rw[vy a o.dst d undef _ k2] at h5
  refine key _ w ?_ h5
  cases e:o.dst with
  |none=>rfl
  |some k=>
   have hk:k≠s:=λe'=>k3 (by rw[e,e'])
   show(a.tmps.setIfInBounds k undef).getD s undef=a.tmps.getD s undef
   rw[aaD,aaD,aaV hk]
theorem NN {Q':Exit->Act->World->Prop} (hQ:∀e a w,Q e a w->Q' e a w):∀(n:Nat) (listed:Array Bool) (a:Act) (w:World),wpAny P .any ops Q n listed a w->wpAny P .any ops Q' n listed a w:=by
 intro n
 induction n with
 |zero=>exact λ_ _ _ h=>⟨h.1,hQ _ _ _ h.2⟩
 |succ n ih=>
  intro listed a w h
  refine⟨λh0=>hQ _ _ _ (h.1 h0),λi hi=>?_⟩
  have h2:=h.2 i hi
  unfold wpOp at h2 ⊢
  split
  .rename_i e;simp only[e] at h2;exact ih _ _ _ h2
  rename_i o e
  simp only[e] at h2
  split
  .rename_i hw
   rw[if_pos hw] at h2
   rcases h2 with h2|⟨h2,a',w',h3⟩
   .exact .inl (tj hQ (Oper.wp_mono (λa w=>ih _ a w) h2))
   exact .inr ⟨h2,a',w',hQ _ _ _ h3⟩
  rename_i hw
  rw[if_neg hw] at h2
  exact ih _ _ _ h2
end
def N8 (ops:Array Oper) (i0 d s:Nat):Bool:=
 (match ops[i0]? with
  |some ⟨some d',.move (.tmp s'),_,_,af,none⟩=>d0 d' d&&d0 s' s&&af.toList.isEmpty
  |_=>false)&&!d0 s d&&(hV ops.size).all λj=>d0 j i0||(match ops[j]? with
   |some o=>(o.after.toList.any λe=>Region.binds .any e&&d0 e.on i0)||(RX d o.op&&(match o.dst with|some k=>!d0 k d&&!d0 k s|none=>true)&&
    (match o.guard with|some (q,_)=>(match(ops[q]?).bind (·.dst) with|some k=>!d0 k d|none=>true)|none=>true))
   |none=>false)
theorem Xi {a b:Nat} (h:(!d0 a b)=true):a≠b:=λe=>by subst e;simp at h
theorem Rn {ops:Array Oper} {i0 d:Nat} (h:N8 ops i0 d s=true):(∃o0,ops[i0]?=some o0/\o0.op= .move (.tmp s)/\o0.dst=some d/\o0.guard=none/\o0.after= #[])/\s≠d/\JS ops i0 d s:=by
 simp only[N8,v0] at h
 obtain⟨⟨h1,h2⟩,h3⟩:=h
 refine⟨?_,Xi h2,λj o hj hne=>?_⟩
 .split at h1
  .rename_i d' s' ty ps af e
   simp only[v0] at h1
   obtain⟨⟨k1,k2⟩,k3⟩:=h1
   have e1:=aae k1
   have e2:=aae k2
   subst e1;subst e2
   refine⟨_,e,rfl,rfl,rfl,?_⟩
   have:af.toList=[]:=by simpa using k3
   exact Array.toList_eq_nil_iff.1 this
  cases h1
 have hlt:j<ops.size:=by
  rcases aaq j ops.size with h|h
  .exact h
  rw[aax h] at hj;cases hj
 have k:=aah.1 h3 j (by simpa using hlt)
 simp only[hj,aan,v0] at k
 rcases k with k|k|⟨⟨k1,k2⟩,k3⟩
 .exact absurd (aae k) hne
 .obtain⟨e,he,hb⟩:=aaE.1 k
  simp only[v0] at hb
  exact .inl ⟨e,by simpa using he,hb.1,aae hb.2⟩
 refine .inr ⟨k1,λe=>?_,λe=>?_,λq b hg e=>?_⟩
 .rw[e] at k2;simp at k2
 .rw[e] at k2;simp at k2
 simp only[hg,e] at k3;simp at k3
theorem Pw {l:List Oper} {ob:Laa} {AQ:Exit->St->Prop} (i0 d s:Nat) (is:List Nat) {r:List (Nat×Oper)} {t:T} (hm:P.follows .mixedOrders=true) (he:Kd l.toArray=true) (hc:Wx l.length (i0::is)=true) (ho:MK l is=some r)
 (hE:N8 l.toArray i0 d s=true) (hd:nlt d N=true) (ht:gt sl s=t) (h:DZ P N l.toArray r [i0] [] [] ⟨(d,t)::sl,ob,nx⟩ ⟨(d,t)::sl,ob,nx⟩ (λs=>AQ .normal s)):AWC P N (.region id l.toArray true) ⟨sl,ob,nx⟩ AQ:=by
 subst ht
 intro cx E a w hR
 refine wp_region_any hm ?_
 have hR':=Cp hR
 obtain⟨⟨o0,e1,e2,e3,e4,e5⟩,hsd,hE⟩:=Rn hE
 have hlt:i0<l.toArray.size:=by
  rcases aaq i0 l.toArray.size with h|h
  .exact h
  rw[aax h] at e1;cases e1
 have hdN:d<N:=dx hd
 have hedge:∀i o,l.toArray[i]?=some o->∀e∈o.after,Region.binds .any e=true->e.on<i:=by
  intro i o ho e hm hb
  have hi:i<l.toArray.size:=by
   rcases aaq i l.toArray.size with h|h
   .exact h
   rw[aax h] at ho;cases ho
  have:=aah.1 he i (by simpa using hi)
  simp only[ho] at this
  have:=aah.1 this e (by simpa using hm)
  simp only[hb,abk,aaJ] at this
  exact dx this
 have hfull:unl l.toArray (aal l.toArray.size false)=l.toArray.size:=by
  unfold unl
  rw[abN.2]
  .simp
  intro i hi;rw[ia];rfl
 have hst:=th (ops:=l.toArray) (listed:=aal l.toArray.size false) (i:=i0) (by simp) hlt (ia _ _)
 rw[hfull] at hst
 have hcl:xT l.toArray ((aal l.toArray.size false).setIfInBounds i0 true):=ya (by simp) hlt e1 (λe he=>by rw[e5] at he;simp at he) (λi o ho hd=>by rw[ia] at hd;cases hd)
 have hR2:Rel N cx E ⟨(d,gt sl s)::sl,ob,nx⟩ (a.put (some d) (a.tmps.getD s undef)) {w with drawn:=w.drawn+1}:=by
  refine⟨hR'.ok,hR'.dom,hR'.obs,λk=>?_,hR'.dfr,by simpa [Act.put] using hR'.size,hR'.td⟩
  rw[iC (by rw[hR'.size];exact hdN)]
  by_cases hk:d=k
  .subst hk;rw[ew,if_pos rfl];exact hR'.sl s
  rw[dL _ _ hk,if_neg hk];exact hR'.sl k
 have key:=TO (P:=P) (cx:=cx) (Q:=λe a w=>e= .normal/\GL N cx AQ .normal a w) (TP hedge) (λE st a w hR hK=>⟨rfl,E,st,hR,hK⟩) h rfl (λq hq=>by have:=(sQ ho).1 q hq;simpa using this) (λj hj=>by
  have hj':j<l.length:=by simpa using hj
  have:=aah.1 hc j (by simpa using hj')
  rcases aaf.1 (gM.1 this) with e|e
  .subst e;exact .inr (.inl (by simp))
  exact .inr (.inr ((sQ ho).2 j e))) (λi o y _ hy=>by simp at hy) (λk=>rfl) rfl rfl ((aal l.toArray.size false).setIfInBounds i0 true) _ _ E (by simp) hcl (λj=>by
  rw[cE (by simpa using hlt)]
  split
  .rename_i e;subst e;simp[uU]
  rename_i e;rw[ia];symm;rw[Bool.eq_false_iff];intro h;have:=gM.1 h;simp at this;exact e this.symm) hR2
 have k2:=NM (λe a w h=>h.1) e1 e2 e3 e4 e5 hsd hE _ (aal l.toArray.size false) a {w with drawn:=w.drawn+1} (by simp) (ia _ _) key
 rw[<-hst] at k2
 exact NN (λe a w h=>by obtain⟨h1,h2⟩:=h;subst h1;exact h2) _ _ _ _ k2
section
variable {P:Program} {N:Nat} {d:Tmp} {x y:Operand} {ty:TypeId} {ps:String} {af:Array Edge} {gd:Option (Nat×Bool)} {sl:Lab} {ob:Laa} {nx:Nat}
end
def qA (ops:Array Oper):Array Bool->List Nat->Prop
 |listed,[]=>Region.ready .any ops listed=[]
 |listed,i::L=>i∈Region.ready .any ops listed/\qA ops (listed.setIfInBounds i true) L
section
variable {P:Program} {ops:Array Oper} {Q:Exit->Act->World->Prop}
theorem Ry:∀(fuel t:Nat) (listed:Array Bool),listed.size=ops.size->unl ops listed<=fuel->qA ops listed (Region.linearise.go .any ops fuel t listed []):=by
 intro fuel
 induction fuel with
 |zero=>
  intro t listed hsz hu
  simp only[Region.linearise.go,List.reverse_nil,qA]
  rw[abM]
  intro i hi
  obtain⟨h1,h2,_⟩:=mz hsz hi
  have:=th hsz h1 h2
  omega
 |succ fuel ih=>
  intro t listed hsz hu
  simp only[Region.linearise.go]
  change qA ops listed (match(Region.ready .any ops listed)[t%(Region.ready .any ops listed).length]? with
   |some i=>Region.linearise.go .any ops fuel (t/(Region.ready .any ops listed).length) (listed.setIfInBounds i true) [i]
   |none=>[].reverse)
  cases hi:(Region.ready .any ops listed)[t%(Region.ready .any ops listed).length]? with
  |none=>
   have hnil:Region.ready .any ops listed=[]:=by
    cases hr:Region.ready .any ops listed with
    |nil=>rfl
    |cons x xs=>
     rw[hr] at hi
     have hlt:t%(x::xs).length<(x::xs).length:=Nat.mod_lt _ (by simp)
     grind
   exact hnil
  |some i=>
   simp only[]
   rw[linearise_go_acc,List.reverse_singleton,List.singleton_append]
   have hm:=List.mem_of_getElem? hi
   obtain⟨h1,h2,_⟩:=mz hsz hm
   have:=th hsz h1 h2
   exact⟨hm,ih _ _ (by simp_all) oaa⟩
theorem JJ:∀(L:List Nat) (listed:Array Bool),listed.size=ops.size->qA ops listed L->L.length<=unl ops listed
 |[],_,_,_=>aat _
 |i::L,listed,hsz,h=>by
  obtain⟨h1,h2,_⟩:=mz hsz h.1
  have:=th hsz h1 h2
  have h3:=JJ L _ (by simp_all) h.2
  simp_all
theorem JK:∀(L:List Nat) (n:Nat) (listed:Array Bool) (a:Act) (w:World),qA ops listed L->L.length<=n->wpAny P .any ops Q n listed a w->wpOps P ops Q L a w
 |[],0,_,_,_,_,_,h=>h.2
 |[],n+1,_,_,_,hv,_,h=>h.1 hv
 |i::L,0,_,_,_,_,hl,_=>by simp at hl
 |i::L,n+1,listed,a,w,hv,hl,h=>by
  rw[wpOps_cons]
  exact wpOp_mono (λa w h=>JK L n _ a w hv.2 (by simp_all) h) (h.2 i hv.1)
end
def qB:List Oper->Nat->Nat->List Oper
 |[],_,_=>[]
 |⟨d,op,ty,ps,af,gd⟩::r,0,q=>⟨d,op,ty,ps,af.push ⟨q,.data⟩,gd⟩::r
 |o::r,p+1,q=>o::qB r p q
theorem vV:∀{l:List Oper} {p q i:Nat},i≠p->(qB l p q)[i]?=l[i]?
 |[],_,_,_,_=>rfl
 |o::r,0,q,0,h=>absurd rfl h
 |⟨d,op,ty,ps,af,gd⟩::r,0,q,i+1,_=>by simp[qB]
 |o::r,p+1,q,0,_=>by simp[qB]
 |o::r,p+1,q,i+1,h=>by simp only[qB,abQ];exact vV (λe=>h (by rw[e]))
theorem zK:∀{l:List Oper} {p q:Nat},(qB l p q)[p]?=(l[p]?).map λo=>{o with after:=o.after.push ⟨q,.data⟩}
 |[],_,_=>rfl
 |⟨d,op,ty,ps,af,gd⟩::r,0,q=>by simp[qB]
 |o::r,p+1,q=>by simp only[qB,abQ];exact zK
theorem FH:∀{l:List Oper} {p q:Nat},(qB l p q).length=l.length
 |[],_,_=>rfl
 |⟨d,op,ty,ps,af,gd⟩::r,0,q=>by simp[qB]
 |o::r,p+1,q=>by simp[qB,FH]
theorem nj {l:List Oper} {p:Nat} {listed:Array Bool} :i∈Region.ready .any (qB l p q).toArray listed↔i∈Region.ready .any l.toArray listed/\(i=p->listed.getD q false=true):=by
 rw[mem_ready,mem_ready]
 simp only[abK]
 by_cases h:i=p
 .subst h
  rw[zK]
  constructor
  .rintro⟨h1,o,ho,hd⟩
   rw[Option.map_eq_some_iff] at ho
   obtain⟨o',ho',rfl⟩:=ho
   exact⟨⟨h1,o',ho',λe he hb=>hd e (by simp[he]) hb⟩,λ_=>hd ⟨q,.data⟩ (by simp) rfl⟩
  grind
 rw[vV h]
 simp_all
theorem HX {l:List Oper} {p q:Nat}:∀(L:List Nat) (listed:Array Bool),listed.size=l.toArray.size->listed.getD q false=true->qA l.toArray listed L->qA (qB l p q).toArray listed L
 |[],listed,_,hq,h=>by
  show Region.ready .any (qB l p q).toArray listed=[]
  rw[abM]
  intro i hi
  have:=(nj.1 hi).1
  have h':Region.ready .any l.toArray listed=[]:=h
  simp_all
 |i::L,listed,hsz,hq,h=>by
  refine⟨nj.2 ⟨h.1,λ_=>hq⟩,HX L _ (by simp_all) ?_ h.2⟩
  obtain⟨h1,_⟩:=mz hsz h.1
  rw[cE oaa]
  simp_all
theorem EF {l:List Oper} {p q:Nat} (hpq:p≠q):∀(L:List Nat) (listed:Array Bool),listed.size=l.toArray.size->listed.getD p false=false->listed.getD q false=false->qA l.toArray listed L->qA (qB l p q).toArray listed L\/qA (qB l q p).toArray listed L
 |[],listed,_,_,_,h=>by
  left
  show Region.ready .any (qB l p q).toArray listed=[]
  rw[abM]
  intro i hi
  have:=(nj.1 hi).1
  have h':Region.ready .any l.toArray listed=[]:=h
  simp_all
 |i::L,listed,hsz,hp,hq,h=>by
  have hs2:(listed.setIfInBounds i true).size=l.toArray.size:=by simpa using hsz
  obtain⟨h1,_⟩:=mz hsz h.1
  have hg:∀j,(listed.setIfInBounds i true).getD j false=if i=j then true else listed.getD j false:=λj=>cE oaa
  by_cases e1:i=q
  .left
   exact⟨nj.2 ⟨h.1,λe=>absurd (e.symm.trans e1) hpq⟩,HX L _ hs2 (by simp_all) h.2⟩
  by_cases e2:i=p
  .right
   exact⟨nj.2 ⟨h.1,λe=>absurd e e1⟩,HX L _ hs2 (by simp_all) h.2⟩
  rcases EF hpq L _ hs2 (by simp_all) (by simp_all) h.2 with k|k
  .exact .inl ⟨nj.2 ⟨h.1,λe=>absurd e e2⟩,k⟩
  exact .inr ⟨nj.2 ⟨h.1,λe=>absurd e e1⟩,k⟩
section
variable {P:Program} {Q:Exit->Act->World->Prop}
theorem Lx {l:List Oper} {p:Nat} (ts:Array Value) (j:Nat):yielded (qB l p q).toArray ts j=yielded l.toArray ts j:=by
 unfold yielded
 have:(((qB l p q).toArray)[j]?).bind (·.dst)=((l.toArray)[j]?).bind (·.dst):=by
  simp only[abK]
  by_cases h:j=p
  .subst h;rw[zK];grind
  rw[vV h]
 rw[this]
theorem By {l:List Oper} {p q:Nat}:∀(L:List Nat) (a:Act) (w:World),wpOps P (qB l p q).toArray Q L a w->wpOps P l.toArray Q L a w
 |[],_,_,h=>h
 |i::L,a,w,h=>by
  rw[wpOps_cons] at h ⊢
  have h':=wpOp_mono (λa w=>By L a w) h
  unfold wpOp at h' ⊢
  have hy:yielded (qB l p q).toArray a.tmps=yielded l.toArray a.tmps:=funext (Lx a.tmps)
  rw[hy] at h'
  simp only[abK] at h' ⊢
  by_cases e:i=p
  .subst e
   rw[zK] at h'
   cases e2:l[i]? with
   |none=>simp_all
   |some o=>rw[e2] at h';exact h'
  rw[vV e] at h';exact h'
end
def rkO:List Nat->Nat->Nat
 |[],_=>0
 |i::is,k=>bif d0 i k then 0 else rkO is k+1
def TQ (ops:Array Oper) (is:List Nat):Bool:=
 (hV ops.size).all λi=>match ops[i]? with
  |some o=>o.after.toList.all λe=>!Region.binds .any e||(nlt e.on ops.size&&nlt (rkO is e.on) (rkO is i))
  |none=>false
theorem Ro {ops:Array Oper} {is:List Nat} (h:TQ ops is=true):Edg ops (rkO is):=by
 intro i o ho e he hb
 have hi:i<ops.size:=by
  rcases aaq i ops.size with h|h
  .exact h
  simp_all
 have:=aah.1 h i (by simp_all)
 simp only[ho] at this
 have:=aah.1 this e (by simp_all)
 simp only[hb,abk,aaJ,v0] at this
 exact⟨dx this.1,dx this.2⟩
def AWA (P:Program) (N:Nat) (l:List Oper) (st:St) (K:St->Prop):Prop:=
 ∀cx E a w,Rel N cx E st a w->∀L,qA l.toArray (aal l.toArray.size false) L->wpOps P l.toArray (GL N cx (onN K)) L a {w with drawn:=w.drawn+1}
theorem Rb {l:List Oper} {K:St->Prop} (p q:Nat) (hpq:d0 p q=false) (h1:AWA P N (qB l p q) st K) (h2:AWA P N (qB l q p) st K):AWA P N l st K:=by
 intro cx E a w hR L hv
 have e1:(qB l p q).toArray.size=l.toArray.size:=by simp[FH]
 have e2:(qB l q p).toArray.size=l.toArray.size:=by simp[FH]
 have hne:p≠q:=λe=>by simp_all
 rcases EF hne L _ (by simp) (ia _ _) (ia _ _) hv with k|k
 .rw[<-e1] at k;exact By L _ _ (h1 cx E a w hR L k)
 rw[<-e2] at k;exact By L _ _ (h2 cx E a w hR L k)
theorem Th {l:List Oper} {K:St->Prop} (is:List Nat) {r:List (Nat×Oper)} (he:TQ l.toArray is=true) (hc:Wx l.length is=true) (ho:MK l is=some r)
 (h:DZ P N l.toArray r [] [] [] st st K):AWA P N l st K:=by
 intro cx E a w hR L hv
 have hR':=Cp hR
 have hedge:=Ro he
 have hfull:unl l.toArray (aal l.toArray.size false)=l.toArray.size:=by
  unfold unl
  rw[abN.2]
  .simp
  simp_all
 have:=TO (P:=P) (cx:=cx) (Q:=GL N cx (onN K)) hedge (λE st a w hR hK=>⟨E,st,hR,hK⟩) h rfl (λq hq=>by have:=(sQ ho).1 q hq;simp_all) (λj hj=>by
  have hj':j<l.length:=by simpa using hj
  have:=aah.1 hc j (by simp_all)
  exact .inr (.inr ((sQ ho).2 j (gM.1 this)))) (λi o y _ hy=>by simp at hy) (λk=>rfl) rfl rfl (aal l.toArray.size false) a _ E (by simp) (λi o ho hd=>by rw[ia] at hd;cases hd) (λj=>by rw[ia];simp[uU]) hR'
 exact JK L _ _ _ _ hv (JJ L _ (by simp) hv) this
theorem Ws {l:List Oper} {AQ:Exit->St->Prop} (M:St) [c:Clo N AQ] (hm:P.follows .mixedOrders=true) (h:AWA P N l st (λs=>ea N s M)) (h2:AQ .normal M):AWC P N (.region id l.toArray true) st AQ:=by
 refine BB (AQ:=onN λs=>ea N s M) ?_ (λe s h=>by
  cases e<;>first|exact c.h _ _ _ h h2|exact h.elim)
 intro cx E a w hR
 exact wp_region_draw λt=>by
  simp only[Region.schedule,hm,Bool.true_or,if_true]
  exact h cx E a w hR _ (Ry _ _ _ (by simp) (by
   unfold unl
   grind))
def cpD (els:List α) (off:Nat) (ys:List α):List α:=els.take off++cpL (els.drop off) ys
theorem Wy {β:Type} (f:α->β) (els ys:List α) (off:Nat):cpD (els.map f) off (ys.map f)=(cpD els off ys).map f:=by simp[cpD,<-abp,<-abw,PA]
@[simp] theorem cpD_len (els ys:List α) (off:Nat):(cpD els off ys).length=els.length:=by simp[cpD];omega
section
variable {P:Program} {N:Nat} {d:Tmp} {ty:TypeId} {ps:String} {af:Array Edge} {gd:Option (Nat×Bool)} {x y z:Operand} {st:St}
theorem UR {o off len:Nat} {ys:Lad} {c:C} [ht:TySl P t e sz by_] (hd:d<N)
 (hx:opT st.sl x= .v (.c (.s o sz off len))) (hy:opT st.sl y= .v (.c c)) (ho:go st.ob o=some (.row e sz els g true)) (hs:Src st.ob c ys gy)
 (hn:els.length=off+len) (hsz:∀e∈ys,e.length=sz):
 AWO P N ⟨some d,.call ⟨.builtin .copy,#[x,y],#[t,t]⟩,ty,ps,af,gd⟩ st ⟨(d,.any)::st.sl,(o,.row e sz (cpD els off ys) (g&&gy) true)::st.ob,st.nx⟩:=by
 intro cx E a w hR
 have h1:=hR.op x;rw[hx] at h1
 have h2:=hR.op y;rw[hy] at h2
 obtain⟨AA,cc,b,kk,hr,hu,hlc0,hAA⟩:=h1
 obtain⟨b',c',arr,hr',hh,ha,hlc,hmx,hes,hrd,hFm,_⟩:=hR.obs o _ ho
 rw[hr] at hr';cases hr'
 have hF:=hFm rfl
 obtain⟨A,k,hv,hyk,hA⟩:=O8 hR hs h2
 obtain⟨ii,zz,i1,i2,i3,i4,i5⟩:=ht.i
 obtain⟨m,hm⟩:∃m,m=Nat.min ys.length len:=⟨_,rfl⟩
 have hm1:m<=ys.length:=by rw[hm];exact Nat.min_le_left _ _
 have hm2:m<=len:=by rw[hm];exact Nat.min_le_right _ _
 have hcp:cpD els off ys=els.take off++ys.take m++els.drop (off+m):=by
  unfold cpD cpL
  rw[List.length_drop,List.drop_drop,List.append_assoc,hn,show off+len-off=len by omega]
  congr 1
  rcases Nat.le_total ys.length len with h|h
  .grind
  simp_all
 have hsrc:∃news:Lae,news.length=m*sz/\(∀u∈news,u.oneCell'=true)/\(∀(j:Nat) (xd:D),(ys.take m).flatten[j]?=some xd->∃u,news[j]?=some u/\rdD w (E.H gy) xd u)/\
  (Builtin.firstCells sz m (.slice A ys.length k)).run P w= .ok news.toArray w:=by
  rcases hA with h0|⟨b2,off,rfl,hrd2⟩
  .subst h0
   have hm0:m=0:=by simpa using hm1
   refine⟨[],by simp[hm0],by simp,by simp,?_⟩
   cases A with
   |none=>rfl
   |some ad=>simp[Builtin.firstCells,hm0,loadCells,loadCellsFrom]
  obtain⟨us,q1,q2,q3,q4⟩:=vz (fD.1 (pC m hrd2))
  have ql:us.length=m*sz:=by
   rw[q1,gH (λe he=>hsz e (aaC he)),abg,aaG hm1]
  refine⟨us,ql,q3,q4,?_⟩
  simp only[Builtin.firstCells]
  exact AC ql (λj u hj=>by have:=q2 j u hj;rwa [vW] at this)
 obtain⟨news,n1,n2,n3,n4⟩:=hsrc
 have hmul:off*sz+m*sz<=arr.size:=by rw[ha,<-aaQ];exact Nat.mul_le_mul_right _ oaa
 have hrun:∃w',w'=w.setRow b (arr.toList.take (off*sz)++news++arr.toList.drop (off*sz+m*sz)).toArray/\(Builtin.copy_ #[t,t] ty #[.slice AA len cc,.slice A ys.length k]).run P w= .ok (goInt m) w':=by
  refine⟨_,rfl,?_⟩
  rcases hAA with h0|rfl
  .have hm0:m=0:=by omega
   subst hm0
   have hn0:news=[]:=aaK oaa
   subst hn0
   have hw:w.setRow b (arr.toList.take (off*sz)++[]++arr.toList.drop (off*sz+0*sz)).toArray=w:=by
    rw[Nat.zero_mul,aaS,List.append_nil,abL,aaW,setRow_self w b arr e (0,0) hh]
   rw[hw]
   simp only[Builtin.copy_]
   simp[underlying,ht.u,Builtin.lenOf,fc i1,i2]
   rw[<-hm,n4]
   cases AA<;>simp[storeCells]
  have hst:=run_storeCells_at (P:=P) b (off*sz) e news 0 arr w hh oaa n2
  simp only[aaS,n1] at hst
  simp only[Builtin.copy_]
  simp[underlying,ht.u,Builtin.lenOf,fc i1,i2]
  simp_all
 obtain⟨w',hw',hrun⟩:=hrun
 unfold Oper.wp
 simp only[execOp,resolve,invoke,builtin,Sem.run_bind,Sem.run_pure,Result.andThen_ok,abo,aaA,abe,hu,hv,hrun,Oper.upon_value]
 subst hw'
 generalize hcs:(arr.toList.take (off*sz)++news++arr.toList.drop (off*sz+m*sz)).toArray=cs
 have hk:=jQ (cs:=cs) (w:=w) hR.ok hr hF
 have hall:∀e'∈cpD els off ys,e'.length=sz:=λe' he'=>by
  grind
 have hlt:(arr.toList.take (off*sz)).length=off*sz:=by simp;omega
 have hrel:=wQ (ob':=.row e sz (cpD els off ys) (g&&gy) true) (cs:=cs) hR hr hF ⟨b,_,_,hr,i8 _ hh,by grind,by grind,hmx,hall,by
  rw[fD]
  refine oF λj xd hj=>?_
  rw[aak,eX (i8 _ hh),show cs[j]?=(arr.toList.take (off*sz)++news++arr.toList.drop (off*sz+m*sz))[j]? by grind]
  rw[hcp,abf,abf] at hj
  have hft:(els.take off).flatten.length=off*sz:=by rw[gH (λe he=>hes e (aaC he)),abg,aaG oaa]
  have hfl:(ys.take m).flatten.length=m*sz:=by rw[gH (λe he=>hsz e (aaC he)),abg,aaG hm1]
  have old:∀(p:Nat) (xd:D),els.flatten[p]?=some xd->∃u,arr[p]?=some u/\rdD (w.setRow b cs) (E.H (g&&gy)) xd u:=λp xd hp=>by
   obtain⟨u,u1,u2⟩:=ni (fD.1 hrd) hp
   rw[aak,eX hh] at u1
   exact⟨u,u1,cT (hk.heap _) (hk.H _) _ _ (pc hR.ok u2 (by simp_all))⟩
  by_cases hj1:j<off*sz
  .rw[aam (by grind),aam oaa] at hj
   have hjd:els.flatten[j]?=some xd:=by
    rw[<-abL off els,abf,aam oaa];exact hj
   obtain⟨u,u1,u2⟩:=old _ _ hjd
   grind
  by_cases hjn:j<off*sz+m*sz
  .rw[aam (by simp_all),aap oaa,hft] at hj
   obtain⟨u,u1,u2⟩:=n3 _ _ hj
   exact⟨u,by grind,cT (hk.heap _) (hk.H _) _ _ (pc hR.ok u2 (by simp))⟩
  rw[aap (by simp_all),aav,hft,hfl] at hj
  have hjd:els.flatten[j]?=some xd:=by
   have e1:els.flatten=(els.take (off+m)).flatten++(els.drop (off+m)).flatten:=by rw[<-abf,abL]
   have e2:(els.take (off+m)).flatten.length=off*sz+m*sz:=by rw[gH (λe he=>hes e (aaC he)),abg,aaG oaa,aaQ]
   rw[e1,aap oaa,e2];exact hj
  obtain⟨u,u1,u2⟩:=old _ _ hjd
  refine⟨u,?_,u2⟩
  have hl2:(arr.toList.take (off*sz)++news).length=off*sz+m*sz:=by rw[aav,hlt,n1]
  rw[aap oaa,hl2,List.getElem?_drop,show off*sz+m*sz+(j-(off*sz+m*sz))=j from by omega]
  simp_all,λ_=>hF,λh=>by cases h⟩
 exact⟨E,hrel.putAny hd _⟩
theorem cpsT {enc:α->List D} {ob:Laa} {o:Nat} {ys zs:List α} {l:Int} {gg:Bool} {c:C} [TySl P t e sz by_] (H:eT ys l ys.length=true) (hzd:zs.map enc=zd:=by exact rfl) (henc:∀a,(enc a).length=sz:=by exact λ_=>rfl) (hd:nlt d N=true:=by exact rfl)
 (hx:opT sl x= .v (.c (.s o sz l.toNat (n-l.toNat))):=by exact rfl) (hy:opT sl y= .v (.c c):=by exact rfl) (hn:ys.length=n:=by first|rfl|simp) (hs:Src ob c zd gy:=by first|exact .d|exact .nil|exact .w rfl (by first|rfl|exact lm _|simp)|exact .wn rfl (by first|rfl|exact lm _|simp)) (ho:go ob o=some (.row e sz (ys.map enc) g true):=by exact rfl) (hg:(g&&gy)=gg:=by exact rfl):
 AWO P N ⟨some d,.call ⟨.builtin .copy,#[x,y],#[t,t]⟩,ty,ps,af,gd⟩ ⟨sl,ob,nx⟩ ⟨(d,.any)::sl,(o,.row e sz ((cpD ys l.toNat zs).map enc) gg true)::ob,nx⟩:=by
 simp only[eT,decide_eq_true_eq] at H
 subst hzd;subst hg;subst hn
 have:=UR (P:=P) (N:=N) (st:=⟨sl,ob,nx⟩) (d:=d) (ty:=ty) (ps:=ps) (af:=af) (gd:=gd) (t:=t) (e:=e) (sz:=sz) (by_:=by_) (dx hd) hx hy ho hs (by simp_all) (Kt henc zs)
 rwa [Wy] at this
theorem weak_g {o:Nat} {rt:TypeId} {ob:Laa} (ho:go ob o=some (.row rt sz els true true):=by exact rfl):ea N ⟨sl,ob,nx⟩ ⟨sl,(o,.row rt sz els false true)::ob,nx⟩:=by
 intro cx E a w hR
 refine⟨E,hR.ok,hR.dom,λl x hl=>?_,hR.sl,hR.dfr,hR.size,hR.td⟩
 by_cases e:o=l
 .subst e
  rw[cW] at hl;cases hl
  obtain⟨b,c,arr,hr,hh,h1,h2,h3,h4,h5,h6,h7⟩:=hR.obs _ _ ho
  exact⟨b,c,arr,hr,hh,h1,h2,h3,h4,cU (λ_ _=>rfl) (λb hb=>hR.ok.gf b hb) rfl _ _ h5,h6,λhm=>by cases hm⟩
 rw[bY _ _ e] at hl;exact hR.obs l x hl
end
def dCs:List C->Option (List D)
 |[]=>some []
 | .d _ d::r=>(dCs r).map (d:: ·)
 |_=>none
def tAV:List T->Option (List AV)
 |[]=>some []
 | .v (.agg cs)::r=>(dCs cs).bind λds=>(tAV r).map (.agg ds:: ·)
 | .v (.c (.d _ d))::r=>(tAV r).map (.c d:: ·)
 |_=>none
theorem Tz {E:Env} {w:World} {F:Nat->Prop} (hH:∀g,E.H g=F):∀{cs:List C} {ds:List D} {us:Lae},dCs cs=some ds->DV w F ds us->CV E w cs us
 |[],ds,us,h,hd=>by
  cases h
  cases us with
  |nil=>trivial
  |cons u us=>exact hd.elim
 | .d g d::r,ds,us,h,hd=>by
  cases e:dCs r with
  |none=>simp[dCs,e] at h
  |some x=>
   simp[dCs,e] at h;subst h
   cases us with
   |nil=>exact hd.elim
   |cons u us=>exact⟨by show rdD w (E.H g) d u;rw[hH];exact hd.1,Tz hH e hd.2⟩
theorem Pa {E:Env} {w:World} {F:Nat->Prop} (hH:∀g,E.H g=F):∀{ts:List T} {as:List AV} {us:Lae},tAV ts=some as->AR w F as us->TV E w ts us
 |[],as,us,h,hd=>by
  cases h
  cases us with
  |nil=>trivial
  |cons u us=>exact hd.elim
 | .v (.agg cs)::r,as,us,h,hd=>by
  cases e1:dCs cs with
  |none=>simp[tAV,e1] at h
  |some ds=>
   cases e2:tAV r with
   |none=>simp[tAV,e1,e2] at h
   |some x=>
    simp[tAV,e1,e2] at h;subst h
    cases us with
    |nil=>exact hd.elim
    |cons u us=>
     obtain⟨⟨arr,hu,hv⟩,h2⟩:=hd
     exact⟨⟨arr,hu,Tz hH e1 hv⟩,Pa hH e2 h2⟩
 | .v (.c (.d g d))::r,as,us,h,hd=>by
  cases e2:tAV r with
  |none=>simp[tAV,e2] at h
  |some x=>
   simp[tAV,e2] at h;subst h
   cases us with
   |nil=>exact hd.elim
   |cons u us=>exact⟨by show rdD w (E.H g) d u;rw[hH];exact hd.1,Pa hH e2 hd.2⟩
theorem FnV.pure {args:List T} {as:List AV} {r:Bool} (h:FnV P f [] args [] (.v (.c (.d false (.b r)))) []) (ha:tAV args=some as:=by exact rfl):Fn P f as [.c (.d (.b r))]:=by
 refine⟨h.enters,λF w vals hF hT hA=>?_⟩
 have hI:VIn {E0 0 0 F with r:=λ_=>none,G:=F} w:=⟨hF,λ_ h=>h,λo b c h=>(by cases h),λo o' b c c' h=>(by cases h),λ_ _ h=>h,λ_ h=>h⟩
 refine(h.calls {E0 0 0 F with r:=λ_=>none,G:=F} w vals hI hT (λk hk o c h=>by cases h) (λl x h=>by cases h) (Pa (λg=>by cases g<;>rfl) ha hA)).mono ?_
 rintro en w' ⟨v,E',hen,vo,hv,_,_⟩
 refine⟨v,λ_=>False,[],hen,⟨vo.past.os,vo.past.tape,vo.past.output,vo.past.size,λk hk hW=>vo.past.block k hk (λ⟨o,c',ho⟩=>by cases ho)⟩,λb h=>h.elim,⟨rfl,?_⟩,by simp⟩
 have:rdD w' (E'.H false) (.b r) v:=hv
 simpa [rdD] using this
theorem wkz (hr:R) (h:R->G:=by intro h;(repeat' (first|refine J4 ?_|refine sq ?_|refine Fe ?_|refine vX ?_|refine uB rfl ?_|refine sm rfl ?_|refine J2 ?_|refine FM ?_|refine tn ?_|refine tr ?_|refine Da ?_|refine FL ?_|refine te ?_|refine bx rfl ?_|refine bo rfl ?_|refine bn ?_|refine br ?_|refine N7 (by kernel_rfl) rfl ?_|((first|apply xr rfl|apply J3 rfl rfl rfl rfl|apply iS rfl|apply TN rfl rfl rfl rfl); · first|exact op rfl rfl rfl rfl|exact opa rfl rfl rfl rfl|exact oq rfl rfl rfl|exact oqa rfl rfl rfl|exact fp rfl rfl rfl|exact fq rfl rfl rfl|exact fe rfl rfl rfl|exact io rfl rfl rfl rfl|exact se rfl rfl rfl|exact bq rfl rfl rfl|exact qe rfl rfl rfl rfl rfl rfl rfl|exact sn rfl rfl rfl|exact bne rfl rfl rfl|exact qn rfl rfl rfl rfl rfl rfl rfl|exact mv1 rfl rfl|exact mv2 rfl rfl|exact mv3 rfl rfl|exact as1 rfl rfl|exact as2 rfl rfl|exact as3 rfl rfl|exact ldT rfl rfl|exact ld rfl rfl|exact lw rfl rfl|exact lwn rfl rfl|exact ls rfl rfl|exact ln rfl rfl|exact Zb rfl rfl|exact lz rfl rfl|exact fz rfl rfl rfl|exact oz rfl rfl rfl|exact oza rfl rfl rfl|exact un rfl rfl|exact ng rfl rfl|exact ba rfl rfl rfl|exact bc rfl rfl rfl rfl|exact al rfl rfl|exact pk1 rfl rfl rfl|exact pk0 rfl rfl rfl|exact ex rfl rfl rfl|exact nc rfl rfl|exact fv rfl rfl rfl|exact fva rfl rfl rfl|exact bd rfl rfl rfl|exact bs rfl rfl rfl rfl rfl rfl rfl rfl|exact cv rfl rfl|exact bt1 rfl rfl|exact ib rfl rfl rfl rfl)|(apply fG rfl; · first|exact sp rfl rfl rfl rfl rfl rfl rfl|exact stz rfl rfl rfl rfl)|refine gs rfl rfl rfl rfl rfl rfl ?_|refine zgs rfl rfl rfl rfl rfl rfl rfl ?_|fail));exact h):G:=h hr
theorem wkb (hr:R) (h:R->G:=by intro h;(repeat' (first|refine J4 ?_|refine sq ?_|refine Fe ?_|refine vX ?_|refine uB rfl ?_|refine sm rfl ?_|refine J2 ?_|refine FM ?_|refine tn ?_|refine tr ?_|refine Da ?_|refine FL ?_|refine te ?_|refine bx rfl ?_|refine bo rfl ?_|refine bn ?_|refine br ?_|refine N7 (by kernel_rfl) rfl ?_|((first|apply xr rfl|apply J3 rfl rfl rfl rfl|apply iS rfl|apply TN rfl rfl rfl rfl); · first|exact op rfl rfl rfl rfl|exact opa rfl rfl rfl rfl|exact oq rfl rfl rfl|exact oqa rfl rfl rfl|exact fp rfl rfl rfl|exact fq rfl rfl rfl|exact fe rfl rfl rfl|exact io rfl rfl rfl rfl|exact se rfl rfl rfl|exact bq rfl rfl rfl|exact qe rfl rfl rfl rfl rfl rfl rfl|exact sn rfl rfl rfl|exact bne rfl rfl rfl|exact qn rfl rfl rfl rfl rfl rfl rfl|exact mv1 rfl rfl|exact mv2 rfl rfl|exact mv3 rfl rfl|exact as1 rfl rfl|exact as2 rfl rfl|exact as3 rfl rfl|exact ldT rfl rfl|exact ld rfl rfl|exact lw rfl rfl|exact lwn rfl rfl|exact ls rfl rfl|exact ln rfl rfl|exact Zb rfl rfl|exact lz rfl rfl|exact fz rfl rfl rfl|exact oz rfl rfl rfl|exact oza rfl rfl rfl|exact un rfl rfl|exact ng rfl rfl|exact ba rfl rfl rfl|exact bc rfl rfl rfl rfl|exact al rfl rfl|exact pk1 rfl rfl rfl|exact pk0 rfl rfl rfl|exact ex rfl rfl rfl|exact nc rfl rfl|exact fv rfl rfl rfl|exact fva rfl rfl rfl|exact bd rfl rfl rfl|exact cv rfl rfl|exact bt1 rfl rfl|exact ib rfl rfl rfl rfl)|(apply fG rfl; · first|exact sp rfl rfl rfl rfl rfl rfl rfl|exact stz rfl rfl rfl rfl)|refine gs rfl rfl rfl rfl rfl rfl ?_|refine zgs rfl rfl rfl rfl rfl rfl rfl ?_|fail));exact h):G:=h hr
inductive F where
 |s (d:D)
 |l (t z:Nat) (e:Lad) (n:Nat)
inductive LM where
 |t
 |f
 |z
 |w (o:Nat)
 |n (o:Nat)
def LM.c:LM->Lad->Nat->C
 | .t,e,_=>.d true (.l e)
 | .f,e,_=>.d false (.l e)
 | .z,_,_=>.nil
 | .w o,_,k=>.w o k
 | .n o,_,k=>.wn o k
def kM:List LM->List F->List C
 |ms,.s d::r=>.d false d::kM ms r
 |m::ms,.l _ _ e n::r=>m.c e n::kM ms r
 |_,_=>[]
def LM.o:LM->Nat->Nat->Lad->Laa->Laa
 | .w o,a,b,e,r=>(o,.row a b e true true)::r
 | .n o,a,b,e,r=>(o,.rown a b e true)::r
 |_,_,_,_,r=>r
def rM:List LM->List F->Laa->Laa
 |ms,.s _::r,q=>rM ms r q
 |m::ms,.l t z e _::r,q=>m.o t z e (rM ms r q)
 |_,_,q=>q
def oM (ms:List LM) (o ty:Nat) (x:List F):Laa:=rM ms x [(o,.var ty (kM ms x))]
inductive RM where
 |d
 |o
 |z
def RM.c:RM->Nat->Nat->Lad->Nat->RC
 | .d,_,_,e,_=>.d (.l e)
 | .o,a,b,e,n=>.own a b e n
 | .z,_,_,_,_=>.nil
def qM:List RM->List F->List RC
 |ms,.s d::r=>.d d::qM ms r
 |m::ms,.l t z e n::r=>m.c t z e n::qM ms r
 |_,_=>[]
abbrev tP (o:Nat):T:=.v (.c (.p o 0))
def m0:Lac:=[(190,190),(191,191),(192,192),(193,193),(200,200)]
theorem wJ (h:R->G:=by(intro h;(repeat' (first|refine J4 ?_|refine sq ?_|refine Fe ?_|refine vX ?_|refine uB rfl ?_|refine sm rfl ?_|refine J2 ?_|refine FM ?_|refine tn ?_|refine tr ?_|refine Da ?_|refine FL ?_|refine te ?_|refine bx rfl ?_|refine bo rfl ?_|refine bn ?_|refine br ?_|refine N7 (by kernel_rfl) rfl ?_|refine YR ⟨by kernel_rfl,?_⟩|((first|apply xr rfl|apply J3 rfl rfl rfl rfl|apply iS rfl|apply TN rfl rfl rfl rfl|apply dr_n rfl|apply X8 rfl rfl rfl rfl); · first|exact op rfl rfl rfl rfl|exact opa rfl rfl rfl rfl|exact oq rfl rfl rfl|exact oqa rfl rfl rfl|exact fp rfl rfl rfl|exact fq rfl rfl rfl|exact fe rfl rfl rfl|exact iqT rfl rfl rfl rfl|exact iqF rfl rfl rfl rfl|exact io rfl rfl rfl rfl|exact se rfl rfl rfl|exact bq rfl rfl rfl|exact qe rfl rfl rfl rfl rfl rfl rfl|exact sn rfl rfl rfl|exact bne rfl rfl rfl|exact qn rfl rfl rfl rfl rfl rfl rfl|exact mv1 rfl rfl|exact mv2 rfl rfl|exact mv3 rfl rfl|exact as1 rfl rfl|exact as2 rfl rfl|exact as3 rfl rfl|exact ldT rfl rfl|exact ld rfl rfl|exact lw rfl rfl|exact lwn rfl rfl|exact ls rfl rfl|exact ln rfl rfl|exact Zb rfl rfl|exact lz rfl rfl|exact fz rfl rfl rfl|exact oz rfl rfl rfl|exact oza rfl rfl rfl|exact un rfl rfl|exact ng rfl rfl|exact ba rfl rfl rfl|exact bc rfl rfl rfl rfl|exact al rfl rfl|exact pk1 rfl rfl rfl|exact pk0 rfl rfl rfl|exact ex rfl rfl rfl|exact nc rfl rfl|exact fv rfl rfl rfl|exact fva rfl rfl rfl|exact bd rfl rfl rfl|exact bs rfl rfl rfl rfl rfl rfl rfl rfl|exact cv rfl rfl|exact bt1 rfl rfl|exact ib rfl rfl rfl rfl)|(apply fG rfl; · first|exact sp rfl rfl rfl rfl rfl rfl rfl|exact stz rfl rfl rfl rfl)|refine gs rfl rfl rfl rfl rfl rfl ?_|refine zgs rfl rfl rfl rfl rfl rfl rfl ?_|refine dgs rfl rfl rfl rfl rfl rfl rfl ?_|fail));exact h)):R->G:=h
theorem wI (hr:R) (h:R->G:=by exact wJ):G:=h hr
theorem wo {st':St} (h1:LeS st.sl st'.nx st'.sl:=by repeat (first|exact trivial|refine⟨rfl,rfl,?_⟩|refine⟨wn rfl (by first|rfl|simp),rfl,?_⟩|refine⟨wnn rfl (by first|rfl|simp),rfl,?_⟩)) (h2:LeO st.ob st'.nx st'.ob:=by repeat (first|exact trivial|refine⟨rfl,⟨rfl,rfl⟩,?_⟩)):ea N st st':=eV h1 h2
section
variable {P:Program} {N:Nat} {st st':St} {AQ:Exit->St->Prop} {ops:Array Oper} {l:List Oper} {o:Oper} {x:Inf} {K:St->Prop} {R:Prop}
theorem nA (h:NS P N o st st' x) (hr:R) (hg:o.guard=none:=by exact rfl) (w:R->AWR P N ops l st' K:=by exact wJ):AWR P N ops (o::l) st K:=xr hg h (w hr)
theorem nG {dj:Tmp} {b:Bool} (h:NS P N o st st' x) (hr:R) (hg:o.guard=some (j,b):=by exact rfl) (hj:(ops[j]?).bind (·.dst)=some dj:=by exact rfl) (hdj:nlt dj N=true:=by exact rfl) (hb:gt st.sl dj=tB b:=by exact rfl) (w:R->AWR P N ops l st' K:=by exact wJ):AWR P N ops (o::l) st K:=J3 hg hj hdj hb h (w hr)
theorem sA (h:AWO P N o st st') (hr:R) (hg:o.guard=none:=by exact rfl) (w:R->AWR P N ops l st' K:=by exact wJ):AWR P N ops (o::l) st K:=fG hg h (w hr)
theorem sG {dj:Tmp} {b:Bool} (h:AWO P N o st st') (hr:R) (hg:o.guard=some (j,b):=by exact rfl) (hj:(ops[j]?).bind (·.dst)=some dj:=by exact rfl) (hdj:nlt dj N=true:=by exact rfl) (hb:gt st.sl dj=tB b:=by exact rfl) (w:R->AWR P N ops l st' K:=by exact wJ):AWR P N ops (o::l) st K:=mh hg hj (dx hdj) hb h (w hr)
theorem cC {c:Operand} {X Y:Code} {b:Bool} {p q r:Option α} {R1 R0:Prop} (H:(bif b then p else q)=r) (h1:p=r->R1) (h0:q=r->R0) (hb:opT st.sl c=tB b:=by exact rfl) (w1:R1->AWC P N X st AQ:=by exact wJ) (w0:R0->AWC P N Y st AQ:=by exact wJ):AWC P N (.cond c X Y) st AQ:=
 p5 hb (λh=>w1 (h1 (bt h H))) (λh=>w0 (h0 (bf h H)))
theorem jA {X:Code} {R1 R2:Prop} (M:St) [c:Clo N AQ] (h1:R1) (h2:R2) (w1:R1->AWC P N X st (xM (λs=>ea N s M) AQ):=by exact wJ) (w2:R2->AQ .normal M:=by exact wJ):AWC P N X st AQ:=xZ M (w1 h1) (w2 h2)
theorem jB {X:Code} {R1 R2:Prop} (M:St) [c:Clo N AQ] (h1:R1) (h2:R2) (w1:R1->AWC P N X st (mb id (xM (λs=>ea N s M) AQ)):=by exact wJ) (w2:R2->AQ .normal M:=by exact wJ):AWC P N X st (mb id AQ):=u7 M (w1 h1) (w2 h2)
theorem jR {R1 R2:Prop} (M:St) [c:CloK N K] (h1:R1) (h2:R2) (w1:R1->AWR P N ops l st (λs=>ea N s M):=by exact wJ) (w2:R2->K M:=by exact wJ):AWR P N ops l st K:=LJ M (w1 h1) (w2 h2)
theorem zI (is:List Nat) {ll:List Oper} {r:List (Nat×Oper)} (hr:R) (hm:P.follows .mixedOrders=true:=by exact Try.follows) (he:Kd ll.toArray=true:=by kernel_rfl) (hc:Wx ll.length is=true:=by kernel_rfl) (ho:MK ll is=some r:=by exact rfl) (w:R->DZ P N ll.toArray r [] [] [] st st (λs=>AQ .normal s):=by exact wJ):AWC P N (.region id ll.toArray true) st AQ:=nO is hm he hc ho (w hr)
theorem dI {ll:List Oper} (hr:R) (hm:P.follows .mixedOrders=true:=by exact Try.follows) (hol:UT st.nx st.ob=true:=by exact rfl) (w:R->DR P N ll.toArray ll [] st (λis t=>Ga ll.toArray is st.nx=true/\AQ .normal t):=by exact wJ):AWC P N (.region id ll.toArray true) st AQ:=Ti hm hol (w hr)
section
variable {KK:List Inf->St->Prop} {is:List Inf}
theorem dA (h:NS P N o st st' x) (hr:R) (hg:o.guard=none:=by exact rfl) (w:R->DR P N ops l (is++[x]) st' KK:=by exact wJ):DR P N ops (o::l) is st KK:=dr_n hg h (w hr)
theorem dG {dj:Tmp} {b:Bool} (h:NS P N o st st' x) (hr:R) (hg:o.guard=some (j,b):=by exact rfl) (hj:(ops[j]?).bind (·.dst)=some dj:=by exact rfl) (hdj:nlt dj N=true:=by exact rfl) (hb:gt st.sl dj=tB b:=by exact rfl) (w:R->DR P N ops l (is++[{x with needs:=(.tmp dj,tB b)::x.needs}]) st' KK:=by exact wJ):DR P N ops (o::l) is st KK:=X8 hg hj hdj hb h (w hr)
end
section
variable {α:Type} {p q r:Option α} {R1 R0:Prop} {j:Nat} {dj:Tmp} {b c:Bool} {sl:Lab} {ob:Laa} {nx:Nat}
theorem gC (H:(bif c then p else q)=r) (h1:p=r->R1) (h0:q=r->R0) (hg:o.guard=some (j,b):=by exact rfl) (hj:(ops[j]?).bind (·.dst)=some dj:=by exact rfl) (hb:gt sl dj=tB c:=by exact rfl)
 (w1:R1->AWR P N ops (o::l) ⟨(dj,tB true)::sl,ob,nx⟩ K:=by exact wJ) (w0:R0->AWR P N ops (o::l) ⟨(dj,tB false)::sl,ob,nx⟩ K:=by exact wJ):AWR P N ops (o::l) ⟨sl,ob,nx⟩ K:=
 g2 hg hj hb (λh=>w1 (h1 (bt h H))) (λh=>w0 (h0 (bf h H)))
theorem dC {is:List Inf} {KK:List Inf->St->Prop} (H:(bif c then p else q)=r) (h1:p=r->R1) (h0:q=r->R0) (hg:o.guard=some (j,b):=by exact rfl) (hj:(ops[j]?).bind (·.dst)=some dj:=by exact rfl) (hb:gt sl dj=tB c:=by exact rfl)
 (w1:R1->DR P N ops (o::l) is ⟨(dj,tB true)::sl,ob,nx⟩ KK:=by exact wJ) (w0:R0->DR P N ops (o::l) is ⟨(dj,tB false)::sl,ob,nx⟩ KK:=by exact wJ):DR P N ops (o::l) is ⟨sl,ob,nx⟩ KK:=
 dg2 hg hj hb (λh=>w1 (h1 (bt h H))) (λh=>w0 (h0 (bf h H)))
end
section
variable {lz:List (Nat×Oper)} {dn seg:List Nat} {ys:List Inx} {base:St} {p:Nat} {y:Inx}
theorem zA (h:NS P N o st st' x) (hr:R) (hg:o.guard=none:=by exact rfl) (w:R->DZ P N ops lz dn (seg++[p]) (ys++[⟨x,[],none⟩]) base st' K:=by exact wJ):DZ P N ops ((p,o)::lz) dn seg ys base st K:=iS hg h (w hr)
theorem wA (h:NX P N o st st' y) (hr:R) (hg:o.guard=none:=by exact rfl) (w:R->DZ P N ops lz dn (seg++[p]) (ys++[y]) base st' K:=by exact wJ):DZ P N ops ((p,o)::lz) dn seg ys base st K:=uF hg h (w hr)
theorem zB {st0 st1 st2:St} {dn':List Nat} (hw:ea N st st0) (h:BO P N ops o st0 st1) (hw2:ea N st1 st2) (hr:R) (hs:CF ops dn seg ys=true:=by kernel_rfl) (hkl:kls ys=[]:=by exact rfl) (hb:LK ops (seg++dn) p=true:=by kernel_rfl) (hlo:p::(seg++dn)=dn':=by exact rfl) (w:R->DZ P N ops lz dn' [] [] st2 st2 K:=by exact wJ):DZ P N ops ((p,o)::lz) dn seg ys base st K:=Gd hs hkl hb hw h hw2 hlo (w hr)
end
theorem aW (hw:ea N st st') (hr:R) (w:R->AWR P N ops l st' K:=by exact wJ):AWR P N ops l st K:=bQ hw (w hr)
theorem iT {c:Code} {σ ρ:Type} {step:σ->Option (cq σ ρ)} {x0:σ} {r:ρ} (H:iter step n x0=some r) (S:σ->St) (round:∀x o,step x=some o->AWC P N c (S x) (gL N S r o AQ)) (h0:ea N st (S x0):=by exact wo):AWC P N (.loop c) st AQ:=u6 S H h0 round
end
theorem wB {sl':Lab} {ob ob':Laa} (o:Nat) (k:Nat) (hs:Ar o k sl=some sl':=by exact rfl) (ho:Lv o k ob=some ob':=by exact rfl) (he:Eqs (SE o k sl):=by repeat (first|exact trivial|refine⟨by first|rfl|simp,?_⟩)) (he2:Eqs (Pk o k ob):=by repeat (first|exact trivial|refine⟨by first|rfl|simp,?_⟩)):ea N ⟨sl,ob,nx⟩ ⟨sl',ob',nx⟩:=vS hs ho he he2
theorem wS {ob:Laa} (p q:Nat) (hp:rsv p=false:=by exact rfl) (hq:rsv q=false:=by exact rfl) (hpn:nlt p nx=true:=by exact rfl) (hqn:nlt q nx=true:=by exact rfl):ea N ⟨sl,ob,nx⟩ ⟨swS p q sl,swO p q ob,nx⟩:=NK hp hq hpn hqn
theorem fI    {fn:Func} {c:Code} {args:List AV} {rs:List ResultVar} {res:List RV} {sl0:Lab}  (hf:P.funcs[f]?=some fn) (hN:fn.ntmps=N) (hr:R) (hb:fn.body=some c:=by exact rfl) (hnm:(fn.name== "runtime.NumGoroutine")=false:=by kernel_rfl) (hrs:fn.results.toList=rs:=by exact rfl)
 (ha:aaB args.length N=true:=by exact rfl) (hs:NW 0 args=some sl0:=by exact rfl) (w:R->AWC P N c ⟨sl0,[],0⟩ (JV N P rs res):=by exact wJ):Fn P f args res:=PM hf hb hnm hN hrs ha hs (w hr)
theorem fW   {fn:Func} {c:Code}  {x y:Ob} {args:List T} {rs:List ResultVar} {res:List RV} {sl0:Lab}  (hf:P.funcs[f]?=some fn) (hN:fn.ntmps=N) (hr:R) (hb:fn.body=some c:=by exact rfl) (hnm:(fn.name== "runtime.NumGoroutine")=false:=by kernel_rfl) (hrs:fn.results.toList=rs:=by exact rfl)
 (ha:aaB args.length N=true:=by exact rfl) (hfx:x.free=true:=by exact rfl) (hfy:y.free=true:=by exact rfl) (hs:xY 0 args=sl0:=by exact rfl) (w:R->AWC P N c ⟨sl0,[(200,x)],210⟩ (LB N P rs res y):=by exact wJ):FnW P f x args y res:=YX hf hb hnm hN hrs ha hfx hfy hs (w hr)
theorem fV   {fn:Func} {c:Code}  {xs ys:Laa} {args:List T} {rs:List ResultVar}   {sl0:Lab}  (hf:P.funcs[f]?=some fn) (hN:fn.ntmps=N) (hr:R) (hb:fn.body=some c:=by exact rfl) (hnm:(fn.name== "runtime.NumGoroutine")=false:=by kernel_rfl) (hrs:fn.results.toList=rs:=by exact rfl)
 (ha:aaB args.length N=true:=by exact rfl) (hs:xY 0 args=sl0:=by exact rfl) (w:R->AWC P N c ⟨sl0,xs,210⟩ (xU N P rs ys out nw):=by exact wJ):FnV P f xs args ys out nw:=T1 hf hb hnm hN hrs ha hs (w hr)
theorem aa {β:Type} {p:Option α} {f:α->Option β} {y:β} (H:p.bind f=some y) (k:∀x,p=some x->f x=some y->G):G:=by
 obtain⟨x,h1,h2⟩:=ob H
 exact k x h1 h2
theorem ai (H:p) (h:p->G:=by(intro H;cases H;exact wo)):G:=h H
theorem ao (H:p) (h:p->G:=by(intro H;cases H;exact dW)):G:=h H
theorem aN (H:p) (h:p->G:=by(intro H;cases H;refine uQ ?_;exact wo)):G:=h H
theorem aE (H:p) (h:p->G:=by(intro H;cases H;refine Mp (λhq=>?_);cases hq;refine wI ?_;exact wo)):G:=h H
theorem aR {AQ:Exit->St->Prop} {σ ρ:Type} {m:Option ρ} {o:cq σ ρ} {S:σ->St} {r:ρ} {e:Exit} {s:St} (H:dn m=some o) (k:m=some r->R) (he:∀r',(r'=r->AQ e s)->gL N S r (.done r') AQ e s:=by(intro r' h;first|exact Mp h|exact iq_r h)) (w:R->AQ e s:=by exact wJ):gL N S r o AQ e s:=by
 obtain⟨r0,Hd,rfl⟩:=dnE H
 exact he r0 λhq=>w (k (Hd.trans (congrArg some hq)))
theorem aQ (H:p) (h:p->G:=by(intro H;refine aR H λH=>?_;exact ao H)):G:=h H
theorem ad (hr:R) (h:R->G:=by(intro h;(try dsimp only);revert h;exact wJ)):G:=h hr
theorem az (H:p) (h:p->G:=by(intro H;repeat' (first|(refine gC H ?_ ?_<;>intro H)|(refine cC H ?_ ?_<;>intro H)|exact ai H))):G:=h H
theorem ay (H:p) (h:p->G:=by(intro H;repeat' (first|(refine cC H ?_ ?_<;>intro H)|(refine gC H ?_ ?_<;>intro H)|exact ao H))):G:=h H
theorem au:(∀{α β:Type} (a:α) (f:α->Option β),Option.bind (some a) f=f a)/\(∀{α:Type} (a b:α),cond true a b=a)/\(∀{α:Type} (a b:α),cond false a b=b)/\(!true)=false/\(!false)=true:=⟨λ_ _=>rfl,λ_ _=>rfl,λ_ _=>rfl,rfl,rfl⟩
end Go.AM
namespace Go
def yW (N h:Nat):Nat:=Nat.mod (Nat.shiftRight N (10*h)) 1024
def ranked (P:Program) (N:Nat):Bool:=P.funcs.toList.zipIdx.all λy=>(P.leadsTo y.1).all λh=>aaB (yW N h+1) (yW N y.2)
theorem Jq {P:Program} {N:Nat} (h:ranked P N=true) {g:Nat} {fn:Func} (hg:P.funcs[g]?=some fn):∀x∈P.leadsTo fn,yW N x<yW N g:=by
 intro x hx
 unfold ranked at h
 rw[aah] at h
 have h1:=h (fn,g) (by rw[List.mem_zipIdx_iff_getElem?];simpa using hg)
 rw[aah] at h1
 exact aaP (h1 x hx)
theorem uD {P:Program} {N r:Nat} (h:ranked P N=true):∀(fuel:Nat) (todo seen:List FuncId),(∀x∈todo,yW N x<=r)->(∀x∈seen,yW N x<=r)->∀x∈P.closureVia fuel todo seen,yW N x<=r
 |0,todo,seen,h1,h2,x,hx=>h2 x (by simpa [Program.closureVia] using hx)
 |n+1,[],seen,h1,h2,x,hx=>h2 x (by simpa [Program.closureVia] using hx)
 |n+1,f::todo,seen,h1,h2,x,hx=>by
  rw[Program.closureVia] at hx
  split at hx
  .exact uD h n todo seen (λy hy=>h1 y (by simp[hy])) h2 x hx
  refine uD h n _ (f::seen) (λy hy=>?_) (λy hy=>?_) x hx
  .rcases aad.1 hy with hy|hy
   .cases e:P.funcs[f]? with
    |none=>rw[e] at hy;simp at hy
    |some fn=>
     rw[e] at hy
     have:=Jq h e y (by simpa using hy)
     have:=h1 f (by simp)
     omega
   exact h1 y (by simp[hy])
  rcases aaf.1 hy with rfl|hy
  .exact h1 _ (by simp)
  exact h2 y hy
theorem recurses_of {P:Program} {N:Nat} (h:ranked P N=true) (f:FuncId):P.recurses f=P.unfollowed f:=by
 unfold Program.recurses
 rw[show((P.closure f).any λg=>((P.funcs[g]?).elim [] P.leadsTo).any λh=>(P.closure h).contains g)=false from ?_]
 .simp
 rw[abl]
 intro g hg
 rw[abO,abl]
 intro x hx
 rw[abO]
 cases hc:(P.closure x).contains g with
 |false=>rfl
 |true=>
  have hm:g∈P.closure x:=by simpa using hc
  have h1:=uD h (r:=yW N x) _ [x] [] (by simp) (by simp) g hm
  cases e:P.funcs[g]? with
  |none=>rw[e] at hx;simp at hx
  |some fn=>
   rw[e] at hx
   have:=Jq h e x (by simpa using hx)
   omega
def Ru (P:Program) (l:List FuncId):List String:=
 l.filterMap λg=>(P.funcs[g]?).bind λfn=>if fn.ours||fn.body.isNone||fn.name== "runtime.NumGoroutine" then some fn.name else none
def Lq (P:Program) (l:List FuncId):Bool:=
 l.any λg=>(P.funcs[g]?).any λfn=>match fn.body with|some c=>c.unfollowed|none=>entryCalls fn
def NG (P:Program) (l:List FuncId):List String:=
 (((l.flatMap λg=>((P.funcs[g]?).bind (·.body)).elim [] Code.globalsNamed).eraseDups).filterMap (λg=>(P.globals[g]?).map (·.name))++
  l.filterMap λg=>(P.funcs[g]?).bind λfn=>if fn.body.isNone then entryReads.lookup fn.name else none).eraseDups
theorem inPlace_is {P:Program} {f:FuncId} {l:List FuncId} (h:P.closure f=l):P.inPlace f=Ru P l:=by unfold Program.inPlace;rw[h];rfl
theorem unfollowed_is {P:Program} {f:FuncId} {l:List FuncId} (h:P.closure f=l):P.unfollowed f=Lq P l:=by unfold Program.unfollowed;rw[h];rfl
theorem varsNamed_is {P:Program} {f:FuncId} {l:List FuncId} (h:P.closure f=l):P.varsNamed f=NG P l:=by unfold Program.varsNamed;rw[h];rfl
end Go
