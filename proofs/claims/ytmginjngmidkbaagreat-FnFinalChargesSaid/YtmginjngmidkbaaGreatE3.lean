/- A part. -/
import Derived.Test.YtmginjngmidkbaaGreatE2
import Derived.Laws.IdiomStrings
import Derived.JoinedOf
set_option linter.unusedVariables false
set_option linter.unusedSimpArgs false
open Nat renaming eq_of_beq_eq_true->aad,beq->d0,min_eq_left->aaF,le_refl->aah,lt_or_ge->aao,zero_add->aaj,zero_le->aas,lt_of_lt_of_le->aau,ble->aaz,le_of_ble_eq_true->aaO,lt_succ_of_lt->abS,ne_of_lt->abT,add_zero->aaT,add_mul->aaP
open Array renaming getD_eq_getD_getElem?->aaC,replicate->aak,getElem?_setIfInBounds_ne->aaU,getElem?_eq_none->aaw,getElem?_eq_getElem->aar,setIfInBounds_comm->abP,toArray_toList->aaV,map_congr_left->abR
open Bool renaming and_eq_true->hV,not_eq_true'->aax,or_eq_false_iff->aaq,not_eq_true->abO,or_eq_true->aam,not_true->abj,false_or->aaJ
open List renaming all_eq_true->aag,getElem?_append_right->aan,getElem?_append_left->aal,mem_of_mem_take->aaA,flatten_append->abe,eq_nil_iff_forall_not_mem->abL,getElem?_toArray->abK,length_map->aay,getElem?_eq_some_iff->aaa,length_append->aav,getElem?_map->aaH,length_take->abf,take_append_drop->abM,mem_append->aac,eq_nil_of_length_eq_zero->aaL,mem_cons->aae,getElem?_set->abI,mem_map->aa7,getElem?_cons_succ->abQ,range->f4,map_take->abo,filter_eq_self->abN,getElem?_take->aat,any_eq_false->abk,any_eq_true->aaD,map_toArray->abn,map_append->abb,map_drop->abv,map_cons->aaB,map_nil->abd
open Option renaming bind_eq_some_iff->abJ
namespace Go.AM
open Go.RowKit
variable {E:Go.AM.Env} {w:World} {b g m gy:Bool} {k l sz n e by_ i j N nx q nx' s id:Nat} {h:Int} {t ty nt:TypeId} {els zd:Go.AM.Lad} {cs:List Go.AM.C} {a:Act} {f:FuncId} {nob nw ob':Go.AM.Laa} {out:Go.AM.T} {st:Go.AM.St} {sl sl' sl0:Go.AM.Lab} {u:Value} {P:Program} {res:List Go.AM.RV} {R p G R1:Prop} {fn:Func} {ρ α:Type} {dj:Tmp} {X:Code} {r:ρ}
section
variable {P:Program} {d:Option Tmp} {ty:TypeId} {ps:String} {af:Array Edge} {gd:Option (Nat×Bool)} {x y z:Operand}
theorem Ir {o b h c:Nat} (hr:E.r o=some (b,k)) (h1:l<=h) (h2:h<=n) (hlc:n<=c):cvC E w (.s o sz l (h-l)) (sliced (some ⟨b,0,none⟩) l h c sz):=by
 refine⟨_,_,b,k,hr,rfl,by omega,?_⟩
 by_cases hlh:h=l
 .left;omega
 right
 rw[if_neg oaa]
 simp[Addr.add]
 try exact λh=>h.symm
theorem NK {t:Nat} {g2:Bool} {o:Nat} {rt:TypeId} {hi:Operand} [ht:eB P t e sz by_] (hn:els.length=n) (h0:0<=h) (h2:h<=n):
 AWN P ⟨d,.slice t x none (some hi) none,ty,ps,af,gd⟩ [(x,.v (.c (.w o n))),(hi,.v (.c (.d g2 (.i .i64 h))))] [(o,.row rt sz els g m)] (.v (.c (.s o sz 0 h.toNat))) []:=
 cM λE ac w hne hob=>by
  have k1:=hne x _ (.head _)
  have k3:=iY (hne hi _ (.tail _ (.head _)))
  obtain⟨b,c,hr,hu⟩:=k1
  obtain⟨b',c',arr,hr',_,_,hlc,_⟩:=hob o _ (.head _)
  rw[hr] at hr';cases hr'
  obtain⟨i,z,hi1,hi2,_⟩:=ht.i
  obtain⟨he,hu'⟩:=AZ ht.u
  refine⟨sliced (some ⟨b,0,none⟩) 0 h.toNat c sz,?_,Ir (w:=w) (n:=n) hr (aas _) oaa oaa⟩
  simp[execOp,hu,k3,run_sliceAt_slice w t _ _ _ _ hu',run_slice_h w t (some ⟨b,0,none⟩) n c hu' .i64 h h0 oaa,he,fm hi1,hi2]
theorem NL {t:Nat} {g2:Bool} {o:Nat} {rt:TypeId} {l:Int} {lo:Operand} [ht:eB P t e sz by_] (hn:els.length=n) (h0:0<=l) (h2:l<=n):
 AWN P ⟨d,.slice t x (some lo) none none,ty,ps,af,gd⟩ [(x,.v (.c (.w o n))),(lo,.v (.c (.d g2 (.i .i64 l))))] [(o,.row rt sz els g m)] (.v (.c (.s o sz l.toNat (n-l.toNat)))) []:=
 cM λE ac w hne hob=>by
  have k1:=hne x _ (.head _)
  have k3:=iY (hne lo _ (.tail _ (.head _)))
  obtain⟨b,c,hr,hu⟩:=k1
  obtain⟨b',c',arr,hr',_,_,hlc,_⟩:=hob o _ (.head _)
  rw[hr] at hr';cases hr'
  obtain⟨i,z,hi1,hi2,_⟩:=ht.i
  obtain⟨he,hu'⟩:=AZ ht.u
  refine⟨sliced (some ⟨b,0,none⟩) l.toNat n c sz,?_,Ir (w:=w) (n:=n) hr oaa (aah _) oaa⟩
  simp[execOp,hu,k3,run_sliceAt_slice w t _ _ _ _ hu',run_slice_l w t (some ⟨b,0,none⟩) n c hu' .i64 l h0 oaa,he,fm hi1,hi2]
theorem NG {kd:IntKind} {o:Nat} {i:Int} [ht:eB P t e sz by_] (h0:0<=i) (h1:i<n):
 AWN P ⟨d,.indexAddr t x y,ty,ps,af,gd⟩ [(x,.v (.c (.wn o n))),(y,.v (.c (.d g (.i kd i))))] [] (.v (.c (.e o sz i.toNat 0))) []:=by
 intro cx E a w ok hn hb hf
 have h2:cvT E w (.v (.c (.w o n))) (a.eval x):=by
  rcases hn x _ (.head _) with⟨_,h,_⟩|⟨_,h⟩
  .omega
  exact h
 exact HW (P:=P) (d:=d) (ty:=ty) (ps:=ps) (af:=af) (gd:=gd) (g:=g) (kd:=kd) (t:=t) h0 h1 cx E a w ok (λz u hm=>by
  simp at hm
  rcases hm with⟨rfl,rfl⟩|⟨rfl,rfl⟩
  .exact h2
  exact hn _ _ (.tail _ (.head _))) (λ_ _ h=>by cases h) hf
theorem C8 {o:Nat} {rt:TypeId} {el:List D} (he:els[i]?=some el) (h:dm E w o (.rown rt sz els g)):dm E w o (.row rt sz els g true):=by
 rcases h with⟨_,h⟩|⟨_,b,c,arr,k1,k2,k3,k4,k5,k6,k7,k8⟩
 .subst h;simp at he
 exact⟨b,c,arr,k1,k2,k3,k4,k5,k6,k7,λ_=>k8,λh=>by cases h⟩
theorem Ru {o:Nat} {rt:TypeId} {el:List D} {c:C} [ht:jN P t] (he:els[i]?=some el) (hc:ld1 g j el=some c):
 AWN P ⟨d,.load t x,ty,ps,af,gd⟩ [(x,.v (.c (.e o sz i j)))] [(o,.rown rt sz els g)] (.v (.c c)) []:=by
 intro cx E a w ok hn hb hf
 exact HX (P:=P) (m:=true) he hc cx E a w ok hn (λl x h=>by simp at h;obtain⟨rfl,rfl⟩:=h;exact C8 he (hb _ _ (.head _))) hf
theorem GX {o:Nat} {rt:TypeId} {el:List D} [ht:hP P t n] (he:els[i]?=some el) (hj:GV g j n el=some cs):
 AWN P ⟨d,.load t x,ty,ps,af,gd⟩ [(x,.v (.c (.e o sz i j)))] [(o,.rown rt sz els g)] (.v (.agg cs)) []:=by
 intro cx E a w ok hn hb hf
 exact zJ (P:=P) (m:=true) he hj cx E a w ok hn (λl x h=>by simp at h;obtain⟨rfl,rfl⟩:=h;exact C8 he (hb _ _ (.head _))) hf
theorem Xh {args:Array Operand} {tys:Array TypeId} (h:a.eval x= .func (.func f) #[] #[]):
 execOp a.eval ⟨d,.call ⟨.value x,args,tys⟩,ty,ps,af,gd⟩=execOp a.eval ⟨d,.call ⟨.value (.func f),args,tys⟩,ty,ps,af,gd⟩:=by
 have e:a.eval (.func f)= .func (.func f) #[] #[]:=rfl
 simp only[execOp,resolve,h,e]
theorem Zq {args:Array Operand} {tys:Array TypeId} {needs:List (Operand×T)} (h:AWN P ⟨d,.call ⟨.value (.func f),args,tys⟩,ty,ps,af,gd⟩ needs nob out nw):
 AWN P ⟨d,.call ⟨.value x,args,tys⟩,ty,ps,af,gd⟩ ((x,.v (.c (.fn f)))::needs) nob out nw:=by
 intro cx E a w ok hn hb hf
 have:=h cx E a w ok (λy t hm=>hn y t (.tail _ hm)) hb hf
 have e:a.eval x= .func (.func f) #[] #[]:=hn x _ (.head _)
 unfold Oper.wp at this ⊢
 rw[Xh e]
 exact this
end
section
variable {P:Program} {N:Nat} {d:Tmp} {ty:TypeId} {ps:String} {af:Array Edge} {gd:Option (Nat×Bool)} {x y z:Operand} {sl:Lab} {ob:Laa} {nx:Nat} {α:Type} {enc:α->List D}
theorem PG {args:Array Operand} {tys:Array TypeId} {st':St} {i:Inf} (hx:opT st.sl x= .v (.c (.fn f))) (h:NS P N ⟨some d,.call ⟨.value (.func f),args,tys⟩,ty,ps,af,gd⟩ st st' i):
 NS P N ⟨some d,.call ⟨.value x,args,tys⟩,ty,ps,af,gd⟩ st st' {i with needs:=(x,.v (.c (.fn f)))::i.needs}:=by
 obtain⟨h1,h2,h3,h4,h5,h6,h7⟩:=h
 exact⟨Zq h1,h2,h3,⟨hx,h4⟩,h5,h6,h7⟩
theorem Zv {t:Nat} {g2:Bool} {o:Nat} {ys:List α} {rt:TypeId} {hi:Operand} [ht:eB P t e sz by_] (H:eS ys 0 h=true) (hn:ys.length=n) (hx:opT sl x= .v (.c (.w o n))) (ho:go ob o=some (.row rt sz (ys.map enc) g m)) (hh:opT sl hi= .v (.c (.d g2 (.i .i64 h)))) (hN:nlt d N=true):
 NS0 P N ⟨some d,.slice t x none (some hi) none,ty,ps,af,gd⟩ sl ob nx d (.v (.c (.s o sz 0 h.toNat))) ⟨d,[(x,.v (.c (.w o n))),(hi,.v (.c (.d g2 (.i .i64 h))))],[(o,.row rt sz (ys.map enc) g m)],.v (.c (.s o sz 0 h.toNat)),[]⟩:=by
 simp only[eS,decide_eq_true_eq] at H
 exact dT (st:=⟨sl,ob,nx⟩) (NK (by simpa using hn) H.2.1 oaa) rfl hN ⟨hx,hh,trivial⟩ ⟨ho,trivial⟩ rfl
theorem Nh {t:Nat} {g2:Bool} {o:Nat} {ys:List α} {rt:TypeId} {l:Int} {lo:Operand} [ht:eB P t e sz by_] (H:eS ys l ys.length=true) (hn:ys.length=n) (hx:opT sl x= .v (.c (.w o n))) (ho:go ob o=some (.row rt sz (ys.map enc) g m)) (hl:opT sl lo= .v (.c (.d g2 (.i .i64 l)))) (hN:nlt d N=true):
 NS0 P N ⟨some d,.slice t x (some lo) none none,ty,ps,af,gd⟩ sl ob nx d (.v (.c (.s o sz l.toNat (n-l.toNat)))) ⟨d,[(x,.v (.c (.w o n))),(lo,.v (.c (.d g2 (.i .i64 l))))],[(o,.row rt sz (ys.map enc) g m)],.v (.c (.s o sz l.toNat (n-l.toNat))),[]⟩:=by
 simp only[eS,decide_eq_true_eq] at H
 exact dT (st:=⟨sl,ob,nx⟩) (NL (by simpa using hn) H.1 oaa) rfl hN ⟨hx,hl,trivial⟩ ⟨ho,trivial⟩ rfl
theorem VU {o:Nat} {ys:List α} (H:eS ys 0 h=true) (ho:go ob o=some (.row t sz (ys.map enc) g m)):Src ob (.s o sz 0 h.toNat) ((ys.take h.toNat).map enc) g:=by
 simp only[eS,decide_eq_true_eq] at H
 have:=Src.s (off:=0) (len:=h.toNat) ho (by simp;omega)
 rwa [List.drop_zero,<-abo] at this
theorem MC {o:Nat} {ys:List α} {l:Int} (H:eS ys l ys.length=true) (hn:ys.length=n) (ho:go ob o=some (.row t sz (ys.map enc) g m)):Src ob (.s o sz l.toNat (n-l.toNat)) ((ys.drop l.toNat).map enc) g:=by
 simp only[eS,decide_eq_true_eq] at H
 subst hn
 have:=Src.s (off:=l.toNat) (len:=ys.length-l.toNat) ho (by simp;omega)
 rwa [<-abv,List.take_of_length_le (by simp)] at this
theorem qN {kd:IntKind} {o:Nat} {i:Int} {ys:List α} {a:α} [eB P t e sz by_] (H:ix ys i=some a) (hx:opT sl x= .v (.c (.wn o n)):=by exact rfl) (hy:opT sl y= .v (.c (.d g (.i kd i))):=by exact rfl) (hn:ys.length=n:=by first|rfl|simp) (hN:nlt d N=true:=by exact rfl):
 NS0 P N ⟨some d,.indexAddr t x y,ty,ps,af,gd⟩ sl ob nx d (.v (.c (.e o sz i.toNat 0))) ⟨d,[(x,.v (.c (.wn o n))),(y,.v (.c (.d g (.i kd i))))],[],.v (.c (.e o sz i.toNat 0)),[]⟩:=
 dT (st:=⟨sl,ob,nx⟩) (NG (ixE H).1 (by have:=UA H;omega)) rfl hN ⟨hx,hy,trivial⟩ trivial rfl
theorem oen {o:Nat} {rt:TypeId} {el:List D} {c:C} [jN P t] (hx:opT sl x= .v (.c (.e o sz i j)):=by exact rfl) (ho:go ob o=some (.rown rt sz els g):=by exact rfl) (hN:nlt d N=true:=by exact rfl) (he:els[i]?=some el) (hc:ld1 g j el=some c:=by exact rfl):
 NS0 P N ⟨some d,.load t x,ty,ps,af,gd⟩ sl ob nx d (.v (.c c)) ⟨d,[(x,.v (.c (.e o sz i j)))],[(o,.rown rt sz els g)],.v (.c c),[]⟩:=dT (st:=⟨sl,ob,nx⟩) (Ru he hc) rfl hN ⟨hx,trivial⟩ ⟨ho,trivial⟩ rfl
theorem JR {o:Nat} {rt:TypeId} {el:List D} [hP P t n] (hx:opT sl x= .v (.c (.e o sz i j)):=by exact rfl) (ho:go ob o=some (.rown rt sz els g):=by exact rfl) (hN:nlt d N=true:=by exact rfl) (he:els[i]?=some el) (hc:GV g j n el=some cs:=by exact rfl):
 NS0 P N ⟨some d,.load t x,ty,ps,af,gd⟩ sl ob nx d (.v (.agg cs)) ⟨d,[(x,.v (.c (.e o sz i j)))],[(o,.rown rt sz els g)],.v (.agg cs),[]⟩:=dT (st:=⟨sl,ob,nx⟩) (GX he hc) rfl hN ⟨hx,trivial⟩ ⟨ho,trivial⟩ rfl
theorem xW {ys:List α} {i:Int} {a:α} (H:ix ys i=some a):ys.map enc≠[]:=by
 intro h
 have:=UA H
 have h0:=(ixE H).1
 rw[List.map_eq_nil_iff] at h
 subst h
 simp at this;omega
end
theorem wnn {o n':Nat} (h:gt sl k= .v (.c (.wn o n))) (hn:n=n'):gt sl k= .v (.c (.wn o n')):=hn▸h
def Ub (o:Nat) (x:D) (g:Bool) (k:Nat):C->Option (C×Lac)
 | .wn l n=>match d0 l o with
  |true=>some (.d g x,[(k,n)])
  |false=>some (.wn l n,[])
 |c=>some (c,[])
def HO (o:Nat) (x:D) (g:Bool) (k:Nat):List C->Option (List C×Lac)
 |[]=>some ([],[])
 |c::cs=>match Ub o x g k c,HO o x g k cs with
  |some (x,e),some (xs,es)=>some (x::xs,e++es)
  |_,_=>none
def Ue (o:Nat) (x:D) (g:Bool) (k:Nat):V->Option (V×Lac)
 | .c c=>match Ub o x g k c with
  |some (x,e)=>some (.c x,e)
  |none=>none
 | .agg cs=>match HO o x g k cs with
  |some (x,e)=>some (.agg x,e)
  |none=>none
def Lh (o:Nat) (x:D) (g:Bool) (k:Nat):List V->Option (List V×Lac)
 |[]=>some ([],[])
 |c::cs=>match Ue o x g k c,Lh o x g k cs with
  |some (x,e),some (xs,es)=>some (x::xs,e++es)
  |_,_=>none
def Ud (o:Nat) (x:D) (g:Bool) (k:Nat):T->Option (T×Lac)
 | .v v=>match Ue o x g k v with
  |some (x,e)=>some (.v x,e)
  |none=>none
 | .tup vs=>match Lh o x g k vs with
  |some (x,e)=>some (.tup x,e)
  |none=>none
 | .any=>some (.any,[])
def Uc (o:Nat) (x:D) (g:Bool) (k:Nat):Lab->Option (Lab×Lac)
 |[]=>some ([],[])
 |(j,t)::r=>match Ud o x g k t,Uc o x g k r with
  |some (x,e),some (xs,es)=>some ((j,x)::xs,e++es)
  |_,_=>none
def xI (o:Nat) (x:D) (g:Bool) (k:Nat):Laa->Option (Laa×Lac)
 |[]=>some ([],[])
 |(j,.var t cs)::r=>match d0 j o with
  |true=>none
  |false=>match HO o x g k cs,xI o x g k r with
   |some (x,e),some (xs,es)=>some ((j,.var t x)::xs,e++es)
   |_,_=>none
 |(j,.row t sz els gg m)::r=>match xI o x g k r with
  |some (xs,es)=>match d0 j o with
   |true=>some (xs,es)
   |false=>some ((j,.row t sz els gg m)::xs,es)
  |none=>none
 |(j,.rown t sz els gg)::r=>match xI o x g k r with
  |some (xs,es)=>match d0 j o with
   |true=>some (xs,es)
   |false=>some ((j,.rown t sz els gg)::xs,es)
  |none=>none
 |(j,.abs i y)::r=>match xI o x g k r with
  |some (xs,es)=>match d0 j o with
   |true=>some (xs,es)
   |false=>some ((j,.abs i y)::xs,es)
  |none=>none
section
variable {E E':Env} {w:World} {o k:Nat} {x:D} {g:Bool} (hd:∀u,cvC E w (.wn o k) u->cvC E' w (.d g x) u) (hk:lf E w E' w)
include hd hk
theorem O8 {c c':C} {e:Lac} (h:Ub o x g k c=some (c',e)) (he:Eqs e) (hc:cvC E w c u):cvC E' w c' u:=by
 cases c with
 |wn l n=>
  simp only[Ub] at h
  split at h
  .rename_i hb
   have:=aad hb
   subst this
   simp at h;obtain⟨rfl,rfl⟩:=h
   have hn:k=n:=he.1
   subst hn
   exact hd u hc
  simp at h;obtain⟨rfl,rfl⟩:=h;exact u5 hk hc
 |_=>simp only[Ub,Option.some.injEq,Prod.mk.injEq] at h;obtain⟨rfl,rfl⟩:=h;exact u5 hk hc
theorem EM:∀{cs cs':List C} {e:Lac} {us:Lae},HO o x g k cs=some (cs',e)->Eqs e->CV E w cs us->CV E' w cs' us
 |[],cs',e,us,h,_,hc=>by
  simp[HO] at h;obtain⟨rfl,rfl⟩:=h
  cases us with
  |nil=>trivial
  |cons _ _=>exact hc.elim
 |c::cs,cs',e,us,h,he,hc=>by
  cases us with
  |nil=>exact hc.elim
  |cons u us=>
   simp only[HO] at h
   split at h
   .rename_i h1 h2
    simp at h;obtain⟨rfl,rfl⟩:=h
    obtain⟨k1,k2⟩:=eY he
    exact⟨O8 hd hk h1 k1 hc.1,EM h2 k2 hc.2⟩
   cases h
theorem O9 {v v':V} {e:Lac} (h:Ue o x g k v=some (v',e)) (he:Eqs e) (hv:cvV E w v u):cvV E' w v' u:=by
 cases v with
 |c c=>
  simp only[Ue] at h
  split at h
  .rename_i h1;simp at h;obtain⟨rfl,rfl⟩:=h;exact O8 hd hk h1 he hv
  cases h
 |agg cs=>
  simp only[Ue] at h
  split at h
  .rename_i h1;simp at h;obtain⟨rfl,rfl⟩:=h;obtain⟨arr,hu,hc⟩:=hv;exact⟨arr,hu,EM hd hk h1 he hc⟩
  cases h
theorem Li:∀{cs cs':List V} {e:Lac} {us:Lae},Lh o x g k cs=some (cs',e)->Eqs e->VV E w cs us->VV E' w cs' us
 |[],cs',e,us,h,_,hc=>by
  simp[Lh] at h;obtain⟨rfl,rfl⟩:=h
  cases us with
  |nil=>trivial
  |cons _ _=>exact hc.elim
 |c::cs,cs',e,us,h,he,hc=>by
  cases us with
  |nil=>exact hc.elim
  |cons u us=>
   simp only[Lh] at h
   split at h
   .rename_i h1 h2
    simp at h;obtain⟨rfl,rfl⟩:=h
    obtain⟨k1,k2⟩:=eY he
    exact⟨O9 hd hk h1 k1 hc.1,Li h2 k2 hc.2⟩
   cases h
theorem Xl {v v':T} {e:Lac} (h:Ud o x g k v=some (v',e)) (he:Eqs e) (hv:cvT E w v u):cvT E' w v' u:=by
 cases v with
 |v v=>
  simp only[Ud] at h
  split at h
  .rename_i h1;simp at h;obtain⟨rfl,rfl⟩:=h;exact O9 hd hk h1 he hv
  cases h
 |tup vs=>
  simp only[Ud] at h
  split at h
  .rename_i h1;simp at h;obtain⟨rfl,rfl⟩:=h;obtain⟨arr,hu,hc⟩:=hv;exact⟨arr,hu,Li hd hk h1 he hc⟩
  cases h
 |any=>simp[Ud] at h;obtain⟨rfl,rfl⟩:=h;trivial
theorem Jl {j:Nat} {u:Value}:∀{sl sl':Lab} {e:Lac},Uc o x g k sl=some (sl',e)->Eqs e->cvT E w (gt sl j) u->cvT E' w (gt sl' j) u
 |[],sl',e,h,_,_=>by simp[Uc] at h;obtain⟨rfl,rfl⟩:=h;trivial
 |(i,t)::r,sl',e,h,he,hc=>by
  simp only[Uc] at h
  split at h
  .rename_i h1 h2
   simp at h;obtain⟨rfl,rfl⟩:=h
   obtain⟨k1,k2⟩:=eY he
   by_cases hj:i=j
   .subst hj;rw[d4] at hc ⊢;exact Xl hd hk h1 k1 hc
   rw[di _ _ hj] at hc ⊢;exact Jl h2 k2 hc
  cases h
theorem rp {l:Nat} {y:Ob} (hlo:l≠o) (hF:∀b c,E.r l=some (b,c)->¬E.F b->¬E'.F b):∀{ob ob':Laa} {e:Lac},xI o x g k ob=some (ob',e)->Eqs e->go ob' l=some y->(∀y,go ob l=some y->dm E w l y)->dm E' w l y
 |[],ob',e,h,_,hy,_=>by simp[xI] at h;obtain⟨rfl,rfl⟩:=h;cases hy
 |(i,.var t cs)::r,ob',e,h,he,hy,hb=>by
  simp only[xI] at h
  split at h
  .cases h
  split at h
  .rename_i a1 a2
   simp at h;obtain⟨rfl,rfl⟩:=h
   obtain⟨k1,k2⟩:=eY he
   by_cases hi:i=l
   .subst hi
    rw[cU] at hy;cases hy
    obtain⟨b,c,arr,q1,q2,q3,q4⟩:=hb _ (cU _ _ _)
    exact⟨b,c,arr,hk.r _ _ q1,q2,EM hd hk a1 k1 q3,hF b c q1 q4⟩
   rw[b7 _ _ hi] at hy
   exact rp hlo hF a2 k2 hy (λy hy=>hb y (by rw[b7 _ _ hi];exact hy))
  cases h
 |(i,.row t sz els gg m)::r,ob',e,h,he,hy,hb=>by
  simp only[xI] at h
  split at h
  .rename_i a2
   split at h
   .rename_i hb2
    simp at h;obtain⟨rfl,rfl⟩:=h
    have hio:=aad hb2
    exact rp hlo hF a2 he hy (λy hy=>hb y (by rw[b7 _ _ (λe=>hlo (e.symm.trans hio))];exact hy))
   simp at h;obtain⟨rfl,rfl⟩:=h
   by_cases hi:i=l
   .subst hi
    rw[cU] at hy;cases hy
    exact gU hk (λ_ _ _=>rfl) (λb c hr=>hF b c hr) (hb _ (cU _ _ _))
   rw[b7 _ _ hi] at hy
   exact rp hlo hF a2 he hy (λy hy=>hb y (by rw[b7 _ _ hi];exact hy))
  cases h
 |(i,.rown t sz els gg)::r,ob',e,h,he,hy,hb=>by
  simp only[xI] at h
  split at h
  .rename_i a2
   split at h
   .rename_i hb2
    simp at h;obtain⟨rfl,rfl⟩:=h
    have hio:=aad hb2
    exact rp hlo hF a2 he hy (λy hy=>hb y (by rw[b7 _ _ (λe=>hlo (e.symm.trans hio))];exact hy))
   simp at h;obtain⟨rfl,rfl⟩:=h
   by_cases hi:i=l
   .subst hi
    rw[cU] at hy;cases hy
    exact gU hk (λ_ _ _=>rfl) (λb c hr=>hF b c hr) (hb _ (cU _ _ _))
   rw[b7 _ _ hi] at hy
   exact rp hlo hF a2 he hy (λy hy=>hb y (by rw[b7 _ _ hi];exact hy))
  cases h
 |(i,.abs _ _)::r,ob',e,h,he,hy,hb=>by
  simp only[xI] at h
  split at h
  .rename_i a2
   split at h
   .rename_i hb2
    simp at h;obtain⟨rfl,rfl⟩:=h
    have hio:=aad hb2
    exact rp hlo hF a2 he hy (λy hy=>hb y (by rw[b7 _ _ (λe=>hlo (e.symm.trans hio))];exact hy))
   simp at h;obtain⟨rfl,rfl⟩:=h
   by_cases hi:i=l
   .subst hi
    rw[cU] at hy;cases hy
    exact gU hk (λ_ _ _=>rfl) (λb c hr=>hF b c hr) (hb _ (cU _ _ _))
   rw[b7 _ _ hi] at hy
   exact rp hlo hF a2 he hy (λy hy=>hb y (by rw[b7 _ _ hi];exact hy))
  cases h
end
theorem mg {o k:Nat} {x:D} {g:Bool}:∀{ob ob':Laa} {e:Lac},xI o x g k ob=some (ob',e)->go ob' o=none
 |[],ob',e,h=>by simp[xI] at h;obtain⟨rfl,rfl⟩:=h;rfl
 |(i,.var t cs)::r,ob',e,h=>by
  simp only[xI] at h
  split at h
  .cases h
  rename_i hb
  split at h
  .rename_i a1 a2
   simp at h;obtain⟨rfl,rfl⟩:=h
   rw[b7 _ _ (jD hb)];exact mg a2
  cases h
 |(i,.row t sz els gg m)::r,ob',e,h=>by
  simp only[xI] at h
  split at h
  .rename_i a2
   split at h
   .simp at h;obtain⟨rfl,rfl⟩:=h;exact mg a2
   rename_i hb
   simp at h;obtain⟨rfl,rfl⟩:=h
   rw[b7 _ _ (jD hb)];exact mg a2
  cases h
 |(i,.rown t sz els gg)::r,ob',e,h=>by
  simp only[xI] at h
  split at h
  .rename_i a2
   split at h
   .simp at h;obtain⟨rfl,rfl⟩:=h;exact mg a2
   rename_i hb
   simp at h;obtain⟨rfl,rfl⟩:=h
   rw[b7 _ _ (jD hb)];exact mg a2
  cases h
 |(i,.abs _ _)::r,ob',e,h=>by
  simp only[xI] at h
  split at h
  .rename_i a2
   split at h
   .simp at h;obtain⟨rfl,rfl⟩:=h;exact mg a2
   rename_i hb
   simp at h;obtain⟨rfl,rfl⟩:=h
   rw[b7 _ _ (jD hb)];exact mg a2
  cases h
theorem fG {ty:Nat} {ob:Laa} {e1 e2:Lac} (o:Nat) (hrv:rsv o=false:=by exact rfl) (ho:go ob o=some (.rown ty sz els g):=by exact rfl) (hs:Uc o (.l els) g els.length sl=some (sl',e1):=by exact rfl) (hb:xI o (.l els) g els.length ob=some (ob',e2):=by exact rfl) (h1:Eqs e1:=by repeat (first|exact trivial|refine⟨by first|rfl|simp,?_⟩)) (h2:Eqs e2:=by repeat (first|exact trivial|refine⟨by first|rfl|simp,?_⟩)):
 dS N ⟨sl,ob,nx⟩ ⟨sl',ob',nx⟩:=by
 intro cx E a w hR
 rcases hR.obs o _ ho with⟨hE,hels⟩|⟨hE,b,c,arr,hr,hh,ha,hlc,hmx,hes,hrd,hF⟩
 .have hk:lf E w E w:=⟨λ_ _ h=>h,λ_ _ h=>h,λ_ _ _=>rfl,λ_ _ h=>⟨h,rfl⟩,λ_ h=>⟨h,.refl _ _⟩,rfl⟩
  have hd:∀u,cvC E w (.wn o els.length) u->cvC E w (.d g (.l els)) u:=by
   intro u hu
   rcases hu with⟨_,_,rfl⟩|⟨hu,_⟩
   .subst hels;show rdD _ _ _ _;rw[rdD];exact⟨none,0,rfl,aah _,.inl rfl⟩
   exact absurd hE hu
  refine⟨E,hR.ok,hR.dom,λl y hl=>?_,λj=>Jl hd hk hs h1 (hR.sl j),hR.dfr,hR.size,hR.td⟩
  by_cases e:l=o
  .subst e;rw[mg hb] at hl;cases hl
  exact rp hd hk e (λ_ _ _ h=>h) hb h2 hl (λy hy=>hR.obs l y hy)
 obtain⟨hb1,hb2⟩:=hR.ok.rb o b c hr
 have hb3:cx.w0.heap.size<=b:=hb2.resolve_right (λh=>by rw[hrv] at h;cases h.2)
 let E':Env:=⟨E.r,λk=>E.F k\/k=b,λk=>E.G k\/(g=true/\k=b),E.T,E.Z,E.n⟩
 have hH:∀g' k,E.H g' k->E'.H g' k:=λg' k hk=>by cases g'<;>exact .inl hk
 have hk:lf E w E' w:=⟨λ_ _ h=>h,hH,λ_ _ _=>rfl,λ_ _ h=>⟨h,rfl⟩,λ_ h=>⟨h,.refl _ _⟩,rfl⟩
 have hd:∀u,cvC E w (.wn o els.length) u->cvC E' w (.d g (.l els)) u:=by
  intro u hu
  rcases hu with⟨hu,_⟩|⟨_,b',c',hr',rfl⟩
  .exact absurd hu hE
  rw[hr] at hr';cases hr'
  show rdD _ _ _ _
  rw[rdD]
  refine⟨_,_,rfl,hlc,.inr ⟨b,0,rfl,?_,cX (λ_ _=>rfl) (hH g) rfl _ _ hrd⟩⟩
  cases g
  .exact .inr rfl
  exact .inr ⟨rfl,rfl⟩
 refine⟨E',⟨?_,?_,?_,hR.ok.rb,hR.ok.inj,hR.ok.os,hR.ok.tape,hR.ok.output,hR.ok.size,hR.ok.block,hR.ok.pin,λk hk=>hk.elim (hR.ok.ff k) (λe=>.inr (e▸hb3)),λk hk hk'=>hk.elim (λh=>hR.ok.gc k h hk') (λe=>e▸.mk hh),
  ⟨λl k h=>?_,hR.ok.sf.tt,λk h=>?_,hR.ok.sf.zs,hR.ok.sf.ze⟩⟩,hR.dom,λl y hl=>?_,λj=>Jl hd hk hs h1 (hR.sl j),hR.dfr,hR.size,hR.td⟩
 .rintro k (h|rfl)
  .exact hR.ok.fb k h
  exact hb1
 .rintro k (h|⟨_,rfl⟩)
  .exact .inl (hR.ok.gf k h)
  exact .inr rfl
 .rintro k (h|⟨_,rfl⟩)
  .exact hR.ok.gn k h
  exact .inl hb3
 .obtain⟨h1,h2,h3,h4⟩:=hR.ok.sf.tb l k h
  exact⟨h1,λhk=>hk.elim h2 (λe=>by subst e;exact h3 o c hr),h3,h4⟩
 .obtain⟨h1,h2,h3,h4⟩:=hR.ok.sf.zc k h
  exact⟨h1,λhk=>hk.elim h2 (λe=>by subst e;exact h3 o c hr),h3,h4⟩
 by_cases e:l=o
 .subst e;rw[mg hb] at hl;cases hl
 exact rp hd hk e (λb' c' hr' hn hn'=>hn'.elim hn (λh=>by subst h;exact e (hR.ok.inj _ _ _ _ _ hr' hr))) hb h2 hl (λy hy=>hR.obs l y hy)
def RC.frz:RC->RC
 | .own _ _ els _=>.d (.l els)
 |r=>r
def RV.frz:RV->RV
 | .c r=>.c r.frz
 | .agg rs=>.agg (rs.map RC.frz)
def RC.full:RC->Prop
 | .own _ _ els n=>els.length=n
 |_=>True
def Nv:List RC->Prop
 |[]=>True
 |r::rs=>r.full/\Nv rs
def RV.full:RV->Prop
 | .c r=>r.full
 | .agg rs=>Nv rs
def Jk:List RV->Prop
 |[]=>True
 |r::rs=>r.full/\Jk rs
section
variable {w:World} {G G2:Nat->Prop} {base:Nat}
theorem Vn (hG:∀b,G b->G2 b) {r:RC} {bs:Lac} (h:rcR w G base r u bs) (hf:r.full) (hb:∀p∈bs,G2 p.1):
 rcR w G2 base r.frz u []/\∀p∈bs,base<=p.1/\p.1<w.heap.size/\jL w p.1:=by
 cases r with
 |d x=>obtain⟨rfl,h⟩:=h;exact⟨⟨rfl,cW (λ_ _=>rfl) hG _ _ h⟩,by simp⟩
 |nil=>obtain⟨rfl,h⟩:=h;exact⟨⟨rfl,h⟩,by simp⟩
 |own ty sz els n=>
  obtain⟨b,c,arr,rfl,rfl,hh,h1,h2,h3,h4,h5,h6,h7⟩:=h
  have hf:els.length=n:=hf
  refine⟨⟨rfl,some ⟨b,0,none⟩,c,by rw[hf],h2,.inr ⟨b,0,rfl,hb _ (.head _),cX (λ_ _=>rfl) hG rfl _ _ h5⟩⟩,λp hp=>?_⟩
  obtain rfl:=List.mem_singleton.1 hp
  exact⟨h7,Xo hh,.mk hh⟩
theorem P5 (hG:∀b,G b->G2 b):∀{rs:List RC} {us:Lae} {bs:Lac},G4 w G base rs us bs->Nv rs->(∀p∈bs,G2 p.1)->
 G4 w G2 base (rs.map RC.frz) us []/\∀p∈bs,base<=p.1/\p.1<w.heap.size/\jL w p.1
 |[],[],bs,h,_,_=>by have h:bs=[]:=h;subst h;exact⟨rfl,by simp⟩
 |r::rs,u::us,bs,⟨b1,b2,e,h1,h2⟩,hf,hb=>by
  subst e
  obtain⟨k1,k2⟩:=Vn hG h1 hf.1 (λp hp=>hb p (by simp[hp]))
  obtain⟨k3,k4⟩:=P5 hG h2 hf.2 (λp hp=>hb p (by simp[hp]))
  exact⟨⟨[],[],rfl,k1,k3⟩,λp hp=>(aac.1 hp).elim (k2 p) (k4 p)⟩
 |[],_::_,_,h,_,_=>h.elim
 |_::_,[],_,h,_,_=>h.elim
theorem VA (hG:∀b,G b->G2 b) {r:RV} {bs:Lac} (h:rvR w G base r u bs) (hf:r.full) (hb:∀p∈bs,G2 p.1):
 rvR w G2 base r.frz u []/\∀p∈bs,base<=p.1/\p.1<w.heap.size/\jL w p.1:=by
 cases r with
 |c r=>exact Vn hG h hf hb
 |agg rs=>
  obtain⟨arr,rfl,h⟩:=h
  obtain⟨k1,k2⟩:=P5 hG h hf hb
  exact⟨⟨arr,rfl,k1⟩,k2⟩
theorem J3 (hG:∀b,G b->G2 b):∀{rs:List RV} {us:Lae} {bs:Lac},DA w G base rs us bs->Jk rs->(∀p∈bs,G2 p.1)->
 DA w G2 base (rs.map RV.frz) us []/\∀p∈bs,base<=p.1/\p.1<w.heap.size/\jL w p.1
 |[],[],bs,h,_,_=>by have h:bs=[]:=h;subst h;exact⟨rfl,by simp⟩
 |r::rs,u::us,bs,⟨b1,b2,e,h1,h2⟩,hf,hb=>by
  subst e
  obtain⟨k1,k2⟩:=VA hG h1 hf.1 (λp hp=>hb p (by simp[hp]))
  obtain⟨k3,k4⟩:=J3 hG h2 hf.2 (λp hp=>hb p (by simp[hp]))
  exact⟨⟨[],[],rfl,k1,k3⟩,λp hp=>(aac.1 hp).elim (k2 p) (k4 p)⟩
 |[],_::_,_,h,_,_=>h.elim
 |_::_,[],_,h,_,_=>h.elim
theorem X6 (hG:∀b,G b->G2 b) {rs:List RV} {bs:Lac} (h:An w G base rs u bs) (hf:Jk rs) (hb:∀p∈bs,G2 p.1):
 An w G2 base (rs.map RV.frz) u []/\∀p∈bs,base<=p.1/\p.1<w.heap.size/\jL w p.1:=by
 cases rs with
 |nil=>obtain⟨arr,hu,h⟩:=h;obtain⟨k1,k2⟩:=J3 hG h hf hb;exact⟨⟨arr,hu,k1⟩,k2⟩
 |cons r rs=>
  cases rs with
  |nil=>exact VA hG h hf.1 hb
  |cons r2 rs=>obtain⟨arr,hu,h⟩:=h;obtain⟨k1,k2⟩:=J3 hG h hf hb;exact⟨⟨arr,hu,k1⟩,k2⟩
end
theorem Fn.frzs {args:List AV} (h:Fn P f args res) (hf:Jk res):Fn P f args (res.map RV.frz):=by
 refine⟨h.enters,λF w vals hF ht hA=>(h.calls F w vals hF ht hA).mono ?_⟩
 rintro e w' ⟨v,G,bs,he,hp,hG,hr,_⟩
 obtain⟨k1,k2⟩:=X6 (G2:=λb=>G b\/∃p∈bs,p.1=b) (λb h=>.inl h) hr hf (λp hp=>.inr ⟨p,hp,rfl⟩)
 refine⟨v,_,[],he,hp,?_,k1,by simp⟩
 rintro b (hb|⟨p,hm,rfl⟩)
 .exact hG b hb
 exact k2 p hm
theorem WO {o:Oper} {needs:List (Operand×T)} (hn:els.length=n)
 (h:AWK P o needs nob (.v (.c (.w q n))) [(q,.row e sz els g true)] [] (some k)):AWK P o needs nob (.v (.c (.d g (.l els)))) [(q,.row e sz els g false)] [] (some k):=by
 intro cx E a w ok hne hnob hfr
 obtain⟨hq1,hq2⟩:=hfr q _ (.head _)
 refine Oper.wp_mono ?_ (h cx E a w ok hne hnob (λl x hm=>by simp at hm;obtain⟨rfl,_⟩:=hm;exact⟨hq1,hq2⟩))
 rintro a' w' ⟨v,E',k1,ok',k3,⟨b,c,hr,hv⟩,k5,k6,k7⟩
 obtain⟨b',c',arr,hr',hh,ha,hlc,hmx,hes,hrd,hFm,_⟩:=k5 q _ (.head _)
 rw[hr] at hr';cases hr'
 have hF:=hFm rfl
 obtain⟨hb1,hb2⟩:=ok'.rb q b c hr
 have hb3:cx.w0.heap.size<=b:=by
  rcases hb2 with h|h
  .exact h
  rw[hq2] at h;cases h.2
 let E2:Env:=⟨E'.r,λj=>E'.F j\/j=b,λj=>E'.G j\/(g=true/\j=b),E'.T,E'.Z,E'.n⟩
 have hH:∀g' j,E'.H g' j->E2.H g' j:=λg' j hj=>by cases g'<;>exact .inl hj
 have hold:∀l c',k≠l->E.r l≠some (b,c'):=λl c' hkl hl=>by
  have h1:=k3.r l _ (by simpa using hkl) hl
  have:=ok'.inj _ _ _ _ _ h1 hr
  subst this
  rw[hq1] at hl;cases hl
 refine⟨v,E2,k1,⟨?_,?_,?_,ok'.rb,ok'.inj,ok'.os,ok'.tape,ok'.output,ok'.size,ok'.block,ok'.pin,λj hj=>hj.elim (ok'.ff j) (λe=>.inr (e▸hb3)),λj hj hj'=>hj.elim (λh=>ok'.gc j h hj') (λe=>e▸.mk hh),
  ⟨λl j h=>?_,ok'.sf.tt,λj h=>?_,ok'.sf.zs,ok'.sf.ze⟩⟩,⟨k3.r,λj hj=>.inl (k3.F j hj),λj hj=>.inl (k3.G j hj),?_,k3.heap,k3.own,k3.ownk,k3.T,k3.Z,k3.n⟩,?_,λl x hm=>?_,(λ_ _ h=>by cases h),λl x hl=>?_⟩
 .rintro j (h|rfl)
  .exact ok'.fb j h
  exact hb1
 .rintro j (h|⟨_,rfl⟩)
  .exact .inl (ok'.gf j h)
  exact .inr rfl
 .rintro j (h|⟨_,rfl⟩)
  .exact ok'.gn j h
  exact .inl hb3
 .obtain⟨h1,h2,h3,h4⟩:=ok'.sf.tb l j h
  exact⟨h1,λhk=>hk.elim h2 (λe=>by subst e;exact h3 q c hr),h3,h4⟩
 .obtain⟨h1,h2,h3,h4⟩:=ok'.sf.zc j h
  exact⟨h1,λhk=>hk.elim h2 (λe=>by subst e;exact h3 q c hr),h3,h4⟩
 .rintro j (h|rfl)
  .exact k3.F' j h
  exact .inr (.inr (λl c' hkl=>hold l c' (λe=>hkl (by rw[e]))))
 .refine⟨some ⟨b,0,none⟩,c,by rw[hv,hn],hlc,.inr ⟨b,0,rfl,?_,cX (λ_ _=>rfl) (hH g) rfl _ _ hrd⟩⟩
  cases g
  .exact .inr rfl
  exact .inr ⟨rfl,rfl⟩
 .simp at hm;obtain⟨rfl,rfl⟩:=hm
  exact⟨b,c,arr,hr,hh,ha,hlc,hmx,hes,cX (λ_ _=>rfl) (hH g) rfl _ _ hrd,(λh=>by cases h),λ_=>⟨.inr rfl,λhg=>.inr ⟨hg,rfl⟩⟩⟩
 rcases k7 l x hl with h|⟨ob,hm⟩
 .exact .inl h
 simp at hm;obtain⟨rfl,_⟩:=hm;exact .inr ⟨_,.head _⟩
section
variable {P:Program} {N:Nat} {d:Tmp} {ty:TypeId} {ps:String} {af:Array Edge} {gd:Option (Nat×Bool)} {x y:Operand} {sl:Lab} {ob:Laa} {nx:Nat} {α:Type} {enc:α->List D}
theorem Hs {o:Nat} {ys zs:List α} {c:C} (ls:List Nat) [eB P t e sz by_] (H:da by_ (ys++zs).length=true) (hzd:zs.map enc=zd:=by exact rfl) (henc:∀a,(enc a).length=sz:=by exact λ_=>rfl) (hfl:∀a,vd (enc a)=true:=by exact λ_=>rfl)
 (hp:vl ob ls=some nob:=by exact rfl) (hd:nlt d N=true:=by exact rfl) (hx:opT sl x= .v (.c (.w o n)):=by exact rfl) (hy:opT sl y= .v (.c c):=by exact rfl) (hn:ys.length=n:=by first|rfl|simp) (hs:Src nob c zd gy:=by first|exact .d|exact .nil|exact .w rfl (by first|rfl|exact lm _|simp)|exact .wn rfl (by first|rfl|exact lm _|simp)) (ho:go nob o=some (.row e sz (ys.map enc) g true):=by exact rfl) (hrv:rsv o=false:=by exact rfl) (hnx:nxt nx=some nx':=by exact rfl):
 NX P N ⟨some d,.call ⟨.builtin .append,#[x,y],#[t,t]⟩,ty,ps,af,gd⟩ ⟨sl,ob,nx⟩ ⟨(d,.v (.c (.d true (.l ((ys++zs).map enc)))))::sl,(nx,.row e sz ((ys++zs).map enc) true false)::ob,nx'⟩
  ⟨⟨d,[(x,.v (.c (.w o n))),(y,.v (.c c))],nob,.v (.c (.d true (.l ((ys++zs).map enc)))),[(nx,.row e sz ((ys++zs).map enc) true false)]⟩,[],some o⟩:=by
 obtain⟨h1,h2,h3,h4,h5,h6⟩:=GI (P:=P) (N:=N) (t:=t) (x:=x) (y:=y) (enc:=enc) (d:=d) (ty:=ty) (ps:=ps) (af:=af) (gd:=gd) (sl:=sl) (ob:=ob) (nx:=nx) ls H hzd henc hfl hp hd hx hy hn hs ho hrv hnx
 exact⟨WO (by simp) h1,.inl ⟨rfl,dr hd⟩,h3,h4,pR hnx,rfl⟩
end
theorem fH {o:Nat} {ob:Laa} {vt:TypeId} {cs':List C} (ho:go ob o=some (.var vt cs):=by exact rfl) (hj:R9 j (.d true (.l [])) cs=some cs':=by exact rfl):dS N ⟨sl,ob,nx⟩ ⟨sl,(o,.var vt cs')::ob,nx⟩:=by
 intro cx E a w hR
 refine⟨E,hR.ok,hR.dom,λl x hl=>?_,hR.sl,hR.dfr,hR.size,hR.td⟩
 by_cases e:o=l
 .subst e
  rw[cU] at hl;cases hl
  obtain⟨b,c,arr,h1,h2,h3,h4⟩:=hR.obs o _ ho
  exact⟨b,c,arr,h1,h2,Ke (x:=.d true (.l [])) ⟨none,0,rfl,aah _,.inl rfl⟩ hj h3 h3,h4⟩
 rw[b7 _ _ e] at hl;exact hR.obs l x hl
section
variable {P:Program} {N:Nat} {ops:Array Oper} {p:Nat} {o:Oper} {l:List (Nat×Oper)} {dn seg:List Nat} {ys:List Inx} {base:St} {K:St->Prop}
theorem wb {ds:List Nat} {ob:Laa} {st0 st1 st2:St} (hs:BG ops dn seg ys=true) (hkl:kls ys=ds) (hA:Fj ds sl ob=some (sl',ob')) (hb:KT ops (seg++dn) p=true)
 (hw:dS N ⟨sl',ob',nx⟩ st0) (h:BO P N ops o st0 st1) (hw2:dS N st1 st2) {dn':List Nat} (hlo:p::(seg++dn)=dn') (h':DZ P N ops l dn' [] [] st2 st2 K):DZ P N ops ((p,o)::l) dn seg ys base ⟨sl,ob,nx⟩ K:=by
 subst hlo
 exact .inr ⟨hs,hb,_,st0,st1,st2,Eu hkl hA,hw,h,hw2,h'⟩
end
structure KG (q l:Nat) (E:Env) (w:World) (E':Env) (w':World):Prop where
 r:∀o x,o≠q->E.r o=some x->E'.r o=some x
 H:∀g b,E.H g b->E'.H g b
 heap:∀g b,E.H g b->w'.heap[b]?=w.heap[b]?
 T:∀k b,k≠l->E.T k b->E'.T k b/\w'.heap[b]?=w.heap[b]?
 Z:∀b,E.Z b->E'.Z b/\sv w w' b
 n:∀o,o≠q->(E'.n o↔E.n o)
section
variable {q l:Nat} {E E':Env} {w w':World}
theorem TB (x:KG q l E w E' w'):∀{c:C} {u:Value},c.has q=false->c.hasR l=false->cvC E w c u->cvC E' w' c u
 | .d g d,u,_,_,h=>cW (x.heap g) (x.H g) d u h
 | .w o n,u,ho,_,⟨b,c,h,hu⟩=>⟨b,c,x.r _ _ (jD ho) h,hu⟩
 | .s o sz off len,u,ho,_,⟨A,c,b,k,h,hu⟩=>⟨A,c,b,k,x.r _ _ (jD ho) h,hu⟩
 | .p o k,u,ho,_,⟨b,c,h,hu⟩=>⟨b,c,x.r _ _ (jD ho) h,hu⟩
 | .e o sz i j,u,ho,_,⟨b,c,h,hu⟩=>⟨b,c,x.r _ _ (jD ho) h,hu⟩
 | .q g y j,u,_,_,⟨b,k,hu,hb,h⟩=>⟨b,k,hu,x.H g b hb,rdL_mono (x.heap g) (x.H g) y b k hb h⟩
 | .fn f,u,_,_,h=>h
 | .nil,u,_,_,h=>h
 | .any,u,_,_,_=>trivial
 | .r k d,u,_,hl,h=>cW (λb hb=>(x.T k b (jD hl) hb).2) (λb hb=>(x.T k b (jD hl) hb).1) d u h
 | .z d,u,_,_,h=>vy (λb hb=>(x.Z b hb).2) (λb hb=>(x.Z b hb).1) d u h
 | .zq y j,u,_,_,⟨b,k,hu,hb,h⟩=>⟨b,k,hu,(x.Z b hb).1,rsL_mono (λb hb=>(x.Z b hb).2) (λb hb=>(x.Z b hb).1) y b k hb h⟩
 | .wn o n,u,ho,_,.inl ⟨h1,h2⟩=>.inl ⟨(x.n o (jD ho)).2 h1,h2⟩
 | .wn o n,u,ho,_,.inr ⟨h1,b,c,h,hu⟩=>.inr ⟨λk=>h1 ((x.n o (jD ho)).1 k),b,c,x.r _ _ (jD ho) h,hu⟩
theorem SR (x:KG q l E w E' w'):∀{cs:List C} {us:Lae},CR q cs=false->Lm l cs=false->CV E w cs us->CV E' w' cs us
 |[],[],_,_,_=>trivial
 |c::cs,u::us,h1,h2,h=>by
  simp only[CR,Lm,aaq] at h1 h2
  exact⟨TB x h1.1 h2.1 h.1,SR x h1.2 h2.2 h.2⟩
 |[],_::_,_,_,h=>h.elim
 |_::_,[],_,_,h=>h.elim
theorem TE (x:KG q l E w E' w') {v:V} (h1:v.has q=false) (h2:v.hasR l=false) (h:cvV E w v u):cvV E' w' v u:=by
 cases v with
 |c c=>exact TB x h1 h2 h
 |agg cs=>obtain⟨arr,hu,h⟩:=h;exact⟨arr,hu,SR x h1 h2 h⟩
theorem YH (x:KG q l E w E' w'):∀{cs:List V} {us:Lae},HR q cs=false->Jm l cs=false->VV E w cs us->VV E' w' cs us
 |[],[],_,_,_=>trivial
 |c::cs,u::us,h1,h2,h=>by
  simp only[HR,Jm,aaq] at h1 h2
  exact⟨TE x h1.1 h2.1 h.1,YH x h1.2 h2.2 h.2⟩
 |[],_::_,_,_,h=>h.elim
 |_::_,[],_,_,h=>h.elim
theorem Zt (x:KG q l E w E' w') {t:T} (h1:t.has q=false) (h2:t.hasR l=false) (h:cvT E w t u):cvT E' w' t u:=by
 cases t with
 |v v=>exact TE x h1 h2 h
 |tup ts=>obtain⟨arr,hu,h⟩:=h;exact⟨arr,hu,YH x h1 h2 h⟩
 |any=>trivial
def Ob.hasR (l:Nat):Ob->Bool
 | .var _ cs=>Lm l cs
 | .abs j _=>d0 j l
 |_=>false
theorem Vt (x:KG q l E w E' w') {o:Nat} {ob:Ob} (ho:o≠q) (h1:ob.hasO q=false) (h2:ob.hasR l=false) (hb:∀b c,E.r o=some (b,c)->w'.heap[b]?=w.heap[b]?) (hF:∀b c,E.r o=some (b,c)->¬E.F b->¬E'.F b) (h:dm E w o ob):dm E' w' o ob:=by
 cases ob with
 |var ty cs=>
  obtain⟨b,c,arr,hr,hh',hc,hf⟩:=h
  exact⟨b,c,arr,x.r _ _ ho hr,(hb b c hr).trans hh',SR x h1 h2 hc,hF b c hr hf⟩
 |row ty sz els g m=>
  obtain⟨b,c,arr,hr,hh',a1,a2,a3,a4,a5,a6,a7⟩:=h
  exact⟨b,c,arr,x.r _ _ ho hr,(hb b c hr).trans hh',a1,a2,a3,a4,cX (x.heap g) (x.H g) (hb b c hr) _ _ a5,λhm=>hF b c hr (a6 hm),λhm=>⟨x.H false b (a7 hm).1,λhg=>x.H true b ((a7 hm).2 hg)⟩⟩
 |rown ty sz els g=>
  rcases h with⟨h0,h1⟩|⟨h0,b,c,arr,hr,hh',a1,a2,a3,a4,a5,a6⟩
  .exact .inl ⟨(x.n o ho).2 h0,h1⟩
  exact .inr ⟨λh=>h0 ((x.n o ho).1 h),b,c,arr,x.r _ _ ho hr,(hb b c hr).trans hh',a1,a2,a3,a4,cX (x.heap g) (x.H g) (hb b c hr) _ _ a5,hF b c hr a6⟩
 |abs j y=>
  rcases h with⟨h0,h1⟩|⟨h0,b,c,hr,a1,a2⟩
  .exact .inl ⟨(x.n o ho).2 h0,h1⟩
  exact .inr ⟨λh=>h0 ((x.n o ho).1 h),b,c,x.r _ _ ho hr,y.st _ _ _ _ _ _ a1 (λk hk=>(x.T j k (jD h2) hk).1) (hb b c hr) (λk hk=>(x.T j k (jD h2) hk).2),hF b c hr a2⟩
end
def B9 (o:Nat):Laa->Laa
 |[]=>[]
 |(k,x)::r=>bif d0 k o then B9 o r else(k,x)::B9 o r
theorem AX {o l:Nat} {x:Ob}:∀{ob:Laa},go (B9 o ob) l=some x->l≠o/\go ob l=some x
 |[],h=>by cases h
 |(k,y)::r,h=>by
  rw[B9] at h
  cases hk:d0 k o with
  |true=>
   rw[hk] at h
   obtain⟨h1,h2⟩:=AX h
   have:=aad hk;subst this
   exact⟨h1,by rw[b7 _ _ (Ne.symm h1)];exact h2⟩
  |false=>
   rw[hk] at h
   by_cases e:k=l
   .subst e
    simp only[cond_false] at h
    rw[cU] at h ⊢;exact⟨jD hk,h⟩
   simp only[cond_false] at h
   rw[b7 _ _ e] at h ⊢;exact AX h
def okO (q l:Nat):Laa->Bool
 |[]=>true
 |(_,x)::r=>(!x.hasO q&&!x.hasR l)&&okO q l r
theorem U6 {q l o:Nat} {x:Ob}:∀{ob:Laa},okO q l ob=true->go ob o=some x->x.hasO q=false/\x.hasR l=false
 |[],_,h=>by cases h
 |(k,y)::r,h0,h=>by
  simp only[okO,hV,aax] at h0
  by_cases e:k=o
  .subst e;rw[cU] at h;cases h;exact h0.1
  rw[b7 _ _ e] at h;exact U6 h0.2 h
theorem JX {cx cx':Cx} {E':Env} {w':World} {o:Nat} {sl1 sl2:Lab} {ob1:Laa} {y:Ob} (hR:Rel N cx E st a w) (ok':dJ cx' E' w') (kg:KG q l E w E' w')
 (h1:oO q st.sl=some sl1) (h2:CP l sl1=some sl2) (h3:B9 q (B9 o st.ob)=ob1) (h4:okO q l ob1=true) (hy:dm E' w' o y)
 (hb:∀k b c,k≠q->k≠o->E.r k=some (b,c)->w'.heap[b]?=w.heap[b]?) (hF:∀k b c,k≠q->k≠o->E.r k=some (b,c)->¬E.F b->¬E'.F b) (hdom:∀o x,E'.r o=some x->o<nx') (htd:∀l b,E'.T l b->l<nx'):
 Rel N cx' E' ⟨sl2,(o,y)::ob1,nx'⟩ a w':=by
 subst h3
 refine⟨ok',hdom,λk x hk=>?_,λk=>?_,hR.dfr,hR.size,htd⟩
 .by_cases e:o=k
  .subst e
   rw[cU] at hk;cases hk;exact hy
  rw[b7 _ _ e] at hk
  obtain⟨k1,k2⟩:=U6 h4 hk
  obtain⟨k3,k4⟩:=AX hk
  obtain⟨k5,k6⟩:=AX k4
  exact Vt kg k3 k1 k2 (λb c hr=>hb k b c k3 k5 hr) (λb c hr=>hF k b c k3 k5 hr) (hR.obs k x k6)
 rcases K9 h2 k with e|⟨e1,e2⟩
 .show cvT E' w' (gt sl2 k) _;rw[e];trivial
 rcases xX h1 k with e|⟨e3,e4⟩
 .show cvT E' w' (gt sl2 k) _;rw[e1,e];trivial
 show cvT E' w' (gt sl2 k) _
 rw[e1,e3]
 exact Zt kg e4 (by rw[e3] at e2;exact e2) (hR.sl k)
def nv:Option (Nat×Nat)->Nat->Value
 |none,_=>.slice none 0 0
 |some (k,c),n=>.slice (some ⟨k,0,none⟩) n c
def D7 (w:World) (nt:TypeId) (k c:Nat) (xs:List Int):Prop:=(∃arr,w.heap[k]?=some (.cells arr nt (0,0))/\arr.size=c)/\xs.length<=c/\c<=maxLen/\∀j x,xs[j]?=some x->w.cell? ⟨k,j,none⟩=some (.int .i64 x)
def OI (w:World) (R:Nat->Prop) (nt:TypeId):Option (Nat×Nat)->List Int->Prop
 |none,xs=>xs=[]
 |some (k,c),xs=>R k/\D7 w nt k c xs
theorem D7.rd {c:Nat} {xs:List Int} (h:D7 w nt k c xs) (F:Nat->Prop):rdLL w F (xs.map eI) k 0:=by
 refine ww (sz:=1) (by simp[eI]) λi e hi=>?_
 rw[aaH] at hi
 cases hx:xs[i]? with
 |none=>rw[hx] at hi;cases hi
 |some x=>
  rw[hx] at hi;cases hi
  rw[eI,rdL,rdL]
  exact⟨⟨_,by simpa using h.2.2.2 i x hx,by rw[rdD]⟩,trivial⟩
theorem D7.of {c:Nat} {xs:List Int} {F:Nat->Prop} {arr:Array Value} (hh:w.heap[k]?=some (.cells arr nt (0,0))) (ha:arr.size=c*1) (hl:(xs.map eI).length<=c) (hc:c<=maxLen) (h:rdLL w F (xs.map eI) k 0):D7 w nt k c xs:=by
 refine⟨⟨arr,hh,by omega⟩,by simpa using hl,hc,λj x hx=>?_⟩
 have:=rI (sz:=1) (i:=j) (e:=eI x) h (by simp[eI]) (by rw[aaH,hx];rfl)
 rw[eI,rdL] at this
 obtain⟨u,h1,h2⟩:=this.1
 rw[rdD] at h2;subst h2
 simpa using h1
theorem D7.keep {w':World} {c:Nat} {xs:List Int} (h:D7 w nt k c xs) (hk:w'.heap[k]?=w.heap[k]?):D7 w' nt k c xs:=by
 obtain⟨⟨arr,h1,h2⟩,h3,h4,h5⟩:=h
 exact⟨⟨arr,hk.trans h1,h2⟩,h3,h4,λj x hx=>(vX hk).trans (h5 j x hx)⟩
theorem OI.keep {w':World} {R R':Nat->Prop} {h:Option (Nat×Nat)} {xs:List Int} (hn:OI w R nt h xs) (hR:∀k c,h=some (k,c)->R k->R' k) (hk:∀k c,h=some (k,c)->R k->w'.heap[k]?=w.heap[k]?):OI w' R' nt h xs:=by
 cases h with
 |none=>exact hn
 |some p=>exact⟨hR _ _ rfl hn.1,hn.2.keep (hk _ _ rfl hn.1)⟩
def Hid.loc (nt:TypeId) (A:Option Addr) (n c:Nat) (xs:List Int):Hid where
 nl:=A=none/\n=0/\c=0/\xs=[]
 S:=λb k R w=>A=some ⟨b,0,none⟩/\c=k/\n=xs.length/\D7 w nt b k xs
 st:=by
  rintro b c' R R' w w' ⟨h1,h2,h3,h4⟩ hR hb hk
  exact⟨h1,h2,h3,h4.keep hb⟩
abbrev M8:=Option (Nat×Option Addr×Nat×Nat)
def Ab:M8->Nat->Bool
 |none,_=>false
 |some (j,_),i=>d0 j i
structure CxS (ty nt:TypeId) (els:List (Int×List Int)) (ho:M8) (b c:Nat) (R:Nat->Prop) (w:World) (hd:Nat->Option (Nat×Nat)):Prop where
 blk:∃arr,w.heap[b]?=some (.cells arr ty (0,0))/\arr.size=c*2
 len:els.length<=c
 cap:c<=maxLen
 a:∀i e,els[i]?=some e->w.cell? ⟨b,i*2,none⟩=some (.int .i64 e.1)
 s:∀i e,els[i]?=some e->Ab ho i=false->w.cell? ⟨b,i*2+1,none⟩=some (nv (hd i) e.2.length)
 ne:∀i e,els[i]?=some e->Ab ho i=false->OI w R nt (hd i) e.2
 inj:∀i j k c c',i<els.length->j<els.length->Ab ho i=false->Ab ho j=false->hd i=some (k,c)->hd j=some (k,c')->i=j
 h:∀i A n k,ho=some (i,A,n,k)->w.cell? ⟨b,i*2+1,none⟩=some (.slice A n k)
def Hid.cx (ty nt:TypeId) (els:List (Int×List Int)) (ho:M8):Hid where
 nl:=els=[]
 S:=λb c R w=>∃hd,CxS ty nt els ho b c R w hd
 st:=by
  rintro b c R R' w w' ⟨hd,h⟩ hR hb hk
  obtain⟨⟨arr,h1,h2⟩,h3,h4,h5,h6,h7,h8,h9⟩:=h
  exact⟨hd,⟨arr,hb.trans h1,h2⟩,h3,h4,λi e hi=>(vX hb).trans (h5 i e hi),λi e hi hh=>(vX hb).trans (h6 i e hi hh),λi e hi hh=>(h7 i e hi hh).keep (λk _ _ hk=>hR k hk) (λk _ _ h=>hk k h),h8,λi A n k hh=>(vX hb).trans (h9 i A n k hh)⟩
abbrev Ob.cxo (o:Nat) (ty nt:TypeId) (els:List (Int×List Int)) (ho:M8):Ob:=.abs o (Hid.cx ty nt els ho)
section
variable {P:Program} {d:Option Tmp} {tt:TypeId} {ps:String} {af:Array Edge} {gd:Option (Nat×Bool)} {x y:Operand}
theorem DI {o:Nat} {els:List (Int×List Int)} {ho:M8} {e:Int×List Int} (he:els[i]?=some e) (h:dm E w o (.cxo o ty nt els ho)):
 ¬E.n o/\∃b c hd,E.r o=some (b,c)/\CxS ty nt els ho b c (E.T o) w hd/\¬E.F b:=by
 rcases h with⟨_,h1⟩|⟨h0,b,c,hr,⟨hd,h1⟩,h2⟩
 .have h1:els=[]:=h1
  subst h1;simp at he
 exact⟨h0,b,c,hd,hr,h1,h2⟩
theorem Rt {o:Nat} {els:List (Int×List Int)} {ho:M8} {e:Int×List Int} [jN P t] (he:els[i]?=some e) (hh:Ab ho i=false):
 AWN P ⟨d,.load t x,tt,ps,af,gd⟩ [(x,.v (.c (.e o 2 i 1)))] [(o,.cxo o ty nt els ho)] (.v (.c (.r o (.l (e.2.map eI))))) []:=
 cM λE ac w hn hb=>by
  obtain⟨b,c',hr,hu⟩:=hn x _ (.head _)
  obtain⟨_,b',c'',hd,hr',hS,_⟩:=DI he (hb o _ (.head _))
  rw[hr] at hr';cases hr'
  refine⟨nv (hd i) e.2.length,by simp[execOp,hu,nN (P:=P) (t:=t) (hS.s i e he hh)],?_⟩
  have hne:=hS.ne i e he hh
  show rdD w (E.T o) (.l (e.2.map eI)) _
  cases hdi:hd i with
  |none=>
   rw[hdi] at hne
   have hne:e.2=[]:=hne
   rw[hne];exact⟨none,0,rfl,aah _,.inl rfl⟩
  |some p=>
   obtain⟨k,cc⟩:=p
   rw[hdi] at hne
   exact⟨some ⟨k,0,none⟩,cc,by simp[nv],by simpa using hne.2.2.1,.inr ⟨k,0,rfl,hne.1,hne.2.rd _⟩⟩
theorem LQ {o:Nat} {els:List (Int×List Int)} {A:Option Addr} {e:Int×List Int} [jN P t] (he:els[i]?=some e):
 AWN P ⟨d,.load t x,tt,ps,af,gd⟩ [(x,.v (.c (.e o 2 i 1)))] [(o,.cxo o ty nt els (some (i,A,n,k)))] (.v (.c (.d false (.k A n k)))) []:=
 cM λE ac w hn hb=>by
  obtain⟨b,c',hr,hu⟩:=hn x _ (.head _)
  obtain⟨_,b',c'',hd,hr',hS,_⟩:=DI he (hb o _ (.head _))
  rw[hr] at hr';cases hr'
  exact⟨.slice A n k,by simp[execOp,hu,nN (P:=P) (t:=t) (hS.h i A n k rfl)],by show rdD _ _ _ _;rw[rdD]⟩
end
section
variable {P:Program} {N:Nat} {d:Tmp} {tt:TypeId} {ps:String} {af:Array Edge} {gd:Option (Nat×Bool)} {x y:Operand} {sl sl1 sl2:Lab} {ob ob1:Laa} {nx:Nat}
theorem VW {c:C} {ys:Lad} {h:Hid} {z:Ob} (hs:Src nob c ys g) (hq:go nob q=some (.abs l h)):Src ((q,z)::nob) c ys g:=by
 cases hs with
 |d=>exact .d
 |nil=>exact .nil
 |w h1 hn=>exact .w (by rw[b7 _ _ (λe=>by simp_all)];exact h1) hn
 |s h1 hn=>exact .s (by rw[b7 _ _ (λe=>by simp_all)];exact h1) hn
 |wn h1 hn=>exact .wn (by rw[b7 _ _ (λe=>by simp_all)];exact h1) hn
theorem Jw {nt p c:Nat} {xs:List Int} {ys:Lad} {cc:C} [ht:eB P t nt 1 by_] (hrv:rsv q=false)
 (ho:go nob q=some (.abs l (Hid.loc nt (some ⟨k,0,none⟩) n c xs))) (hs:Src nob cc ys gy) (hn:xs.length=n) (hsz:∀e∈ys,e.length=1) (hb:(n+ys.length)*by_<=140737488355328) (h63:n+ys.length<=9223372036854775807):
 AWK P ⟨some d,.call ⟨.builtin .append,#[x,y],#[t,t]⟩,tt,ps,af,gd⟩ [(x,.v (.c (.d false (.k (some ⟨k,0,none⟩) n c)))),(y,.v (.c cc))] nob (.v (.c (.w p (n+ys.length)))) [(p,.row nt 1 (xs.map eI++ys) (true&&gy) true)] [] (some q):=by
 intro cx E a w ok hne hnob hfr
 have hq:=hnob q _ (Aa ho)
 rcases hq with⟨_,h1⟩|⟨_,b,c',hr,⟨h1,h2,h3,⟨⟨arr,h4,h5⟩,h6,h7,h8⟩⟩,hF⟩
 .have h1:some (⟨k,0,none⟩:Addr)=none/\_:=h1
  cases h1.1
 cases h1
 subst h2
 have hrow:dm E w q (.row nt 1 (xs.map eI) true true):=⟨k,c,arr,hr,h4,by omega,by grind,h7,by simp[eI],D7.rd ⟨⟨arr,h4,h5⟩,h6,h7,h8⟩ _,λ_=>hF,λh=>by cases h⟩
 refine LC (P:=P) (d:=d) (ty:=tt) (ps:=ps) (af:=af) (gd:=gd) (x:=x) (y:=y) (t:=t) (e:=nt) (sz:=1) (by_:=by_) (o:=q) (q:=p) (n:=n) (els:=xs.map eI) (g:=true) (nob:=(q,.row nt 1 (xs.map eI) true true)::nob) hrv (cU _ _ _) (VW hs ho) (by grind) hsz hb h63 cx E a w ok (λx' t' hm=>?_) (λl' ob' hm=>?_) hfr
 .rcases aae.1 hm with e|hm
  .cases e
   have:=hne x _ (.head _)
   have:a.eval x= .slice (some ⟨k,0,none⟩) n c:=this
   exact⟨k,c,hr,this⟩
  grind
 grind
theorem apk {nt c:Nat} {xs zs:List Int} {cc:C} (ls:List Nat) [eB P t nt 1 by_] (H:da by_ (xs++zs).length=true) (hzd:zs.map eI=zd) (hn:xs.length=n)
 (hp:vl ob ls=some nob) (hs:Src nob cc zd true) (hd:nlt d N=true) (hx:opT sl x= .v (.c (.d false (.k (some ⟨k,0,none⟩) n c)))) (hy:opT sl y= .v (.c cc)) (ho:go nob q=some (.abs l (Hid.loc nt (some ⟨k,0,none⟩) n c xs))) (hrv:rsv q=false) (hnx:nxt nx=some nx'):
 NX P N ⟨some d,.call ⟨.builtin .append,#[x,y],#[t,t]⟩,tt,ps,af,gd⟩ ⟨sl,ob,nx⟩ ⟨(d,.v (.c (.w nx (xs++zs).length)))::sl,(nx,.row nt 1 ((xs++zs).map eI) true true)::ob,nx'⟩
  ⟨⟨d,[(x,.v (.c (.d false (.k (some ⟨k,0,none⟩) n c)))),(y,.v (.c cc))],nob,.v (.c (.w nx (xs++zs).length)),[(nx,.row nt 1 ((xs++zs).map eI) true true)]⟩,[],some q⟩:=by
 subst hzd
 simp only[da,decide_eq_true_eq,aav] at H
 have:=Jw (P:=P) (d:=d) (tt:=tt) (ps:=ps) (af:=af) (gd:=gd) (x:=x) (y:=y) (t:=t) (nt:=nt) (by_:=by_) (p:=nx) (n:=n) hrv ho hs hn (by simp[eI]) (by simp_all) (by simp_all)
 rw[<-abb,aay,<-hn,<-aav] at this
 exact⟨by simp_all,.inl ⟨rfl,dr hd⟩,⟨hx,hy,trivial⟩,vm hp,pR hnx,rfl⟩
theorem apNk {nt:Nat} {zs:List Int} {cc:C} (ls:List Nat) [eB P t nt 1 by_] (H:da by_ zs.length=true) (hne:zs≠[]) (hzd:zs.map eI=zd)
 (hp:vl ob ls=some nob) (hs:Src nob cc zd true) (hd:nlt d N=true) (hx:opT sl x= .v (.c (.d false (.k none 0 0)))) (hy:opT sl y= .v (.c cc)) (hnx:nxt nx=some nx'):
 NS P N ⟨some d,.call ⟨.builtin .append,#[x,y],#[t,t]⟩,tt,ps,af,gd⟩ ⟨sl,ob,nx⟩ ⟨(d,.v (.c (.w nx zs.length)))::sl,(nx,.row nt 1 (zs.map eI) true true)::ob,nx'⟩
  ⟨d,[(x,.v (.c (.d false (.k none 0 0)))),(y,.v (.c cc))],nob,.v (.c (.w nx zs.length)),[(nx,.row nt 1 (zs.map eI) true true)]⟩:=by
 subst hzd
 simp only[da,decide_eq_true_eq] at H
 have h1:=JG (P:=P) (d:=d) (ty:=tt) (ps:=ps) (af:=af) (gd:=gd) (x:=x) (y:=y) (t:=t) (e:=nt) (sz:=1) (by_:=by_) (q:=nx) hs (by simp_all) (by simp[eI]) (by simp_all) (by simp_all)
 rw[aay] at h1
 refine⟨λcx E a w ok hnd hnob hfr=>h1 cx E a w ok (λx' t' hm=>?_) hnob hfr,rfl,dr hd,⟨hx,hy,trivial⟩,vm hp,pR hnx,rfl⟩
 rcases aae.1 hm with e|hm
 .cases e
  have h:a.eval x= .slice none 0 0:=hnd x (.v (.c (.d false (.k none 0 0)))) (.head _)
  exact h
 simp_all
end
section
variable {P:Program} {N:Nat} {d:Tmp} {tt:TypeId} {ps:String} {af:Array Edge} {gd:Option (Nat×Bool)} {x y:Operand} {sl sl1 sl2:Lab} {ob ob1:Laa} {nx:Nat} {AQ:Exit->St->Prop}
theorem LX {o:Nat} {els:List (Int×List Int)} {hole:M8} {e:Int×List Int} {ys:List Int} [ht:TyN P t 1] (hx:opT sl x= .v (.c (.e o 2 i 1))) (hy:opT sl y= .v (.c (.w s n))) (ho:go ob o=some (.cxo o ty nt els hole)) (hs:go ob s=some (.row nt 1 (ys.map eI) g true))
 (hn:ys.length=n) (he:els[i]?=some e) (hh:hole=none\/∃A n k,hole=some (i,A,n,k)) (hrv:rsv s=false) (hso:d0 s o=false) (hol:nlt o nx=true) (h1:oO s sl=some sl1) (h2:CP s sl1=some sl2) (h3:B9 s (B9 o ob)=ob1) (h4:okO s s ob1=true):
 AWO P N ⟨none,.store t x y,tt,ps,af,gd⟩ ⟨sl,ob,nx⟩ ⟨sl2,(o,.cxo o ty nt (els.set i (e.1,ys)) none)::ob1,nx⟩:=by
 intro cx E a w hR
 have hx1:=hR.op x;rw[hx] at hx1
 have hy1:=hR.op y;rw[hy] at hy1
 have ok:=hR.ok
 obtain⟨b,c,hr,hu⟩:=hx1
 obtain⟨hnn,b',c',hd,hr',hS,hF⟩:=DI he (hR.obs o _ ho)
 rw[hr] at hr';cases hr'
 obtain⟨bs,cs,hrs,hv⟩:=hy1
 obtain⟨bs',cs',arrs,hrs',hhs,has,hls,hcs,_,hrds,hFs,_⟩:=hR.obs s _ hs
 rw[hrs] at hrs';cases hrs'
 have hFs:=hFs rfl
 have hso:s≠o:=jD hso
 have hbb:bs≠b:=λe=>by subst e;exact hso (ok.inj _ _ _ _ _ hrs hr)
 have hil:i<els.length:=(aaa.1 he).1
 have hrow:=D7.of hhs has hls hcs hrds
 obtain⟨arr,hh0,ha0⟩:=hS.blk
 have hvc:(a.eval y).cells= #[a.eval y]:=by rw[hv];rfl
 have hbound:i*2+1+1<=arr.size:=by have:=hS.len;omega
 have hrun:=uE (P:=P) (t:=t) (n:=1) (k:=i*2+1) (u:=a.eval y) (w:=w) (b:=b) (by rw[hvc];rfl) (by rw[hvc];simp;rw[hv];rfl) hh0 hbound
 unfold Oper.wp
 simp only[execOp,hu,Sem.run_bind,hrun,Result.andThen_ok,Sem.run_pure,Oper.upon_skip,Act.put]
 obtain⟨arr',harr'⟩:∃arr',arr'=(arr.toList.take (i*2+1)++(a.eval y).cells.toList++arr.toList.drop (i*2+1+1)).toArray:=⟨_,rfl⟩
 rw[<-harr']
 have hsz':arr'.size=arr.size:=by rw[harr',hvc];simp;omega
 have hget:∀j,arr'[j]?=if j=i*2+1 then some (a.eval y) else arr[j]?:=by
  intro j
  rw[harr',abK,nq (by rw[hvc];rfl) oaa,hvc]
  by_cases hj:j=i*2+1
  .simp_all
  grind
 have hw':=jm arr' hh0
 have hcell:∀j,j≠i*2+1->(w.setRow b arr').cell? ⟨b,j,none⟩=w.cell? ⟨b,j,none⟩:=λj hj=>by rw[fa hw',fa hh0,hget,if_neg hj]
 have ok1:dJ cx E (w.setRow b arr'):=A0 ok hr hF
 have hk:=ku (cs:=arr') (w:=w) ok hr hF
 have hTb:∀l k,E.T l k->k≠b:=λl k h e=>by subst e;exact(ok.sf.tb l k h).2.2.1 o c hr
 have hTs:∀l,¬E.T l bs:=λl h=>(ok.sf.tb l bs h).2.2.1 s cs hrs
 have hsb:=ok1.rb s bs cs hrs
 have hnew:cx.w0.heap.size<=bs:=hsb.2.resolve_right (λh=>by simp_all)
 obtain⟨E',hE'⟩:∃E':Env,E'={E with r:=λl=>if l=s then none else E.r l,T:=λl k=>E.T l k\/(l=o/\k=bs)}:=⟨_,rfl⟩
 have e_r:∀l p,E'.r l=some p↔l≠s/\E.r l=some p:=λl p=>by
  simp_all
 have e_T:∀l k,E'.T l k↔E.T l k\/(l=o/\k=bs):=λl k=>by simp_all
 have e_F:E'.F=E.F:=by subst hE';rfl
 have e_G:E'.G=E.G:=by subst hE';rfl
 have e_Z:E'.Z=E.Z:=by subst hE';rfl
 have e_n:E'.n=E.n:=by subst hE';rfl
 have e_H:∀g,E'.H g=E.H g:=λg=>by cases g;exact e_F;exact e_G
 have ok':dJ cx E' (w.setRow b arr'):=by
  refine⟨by rw[e_F];exact ok1.fb,by rw[e_F,e_G];exact ok1.gf,by rw[e_G];exact ok1.gn,λl b c h=>ok1.rb l b c ((e_r _ _).1 h).2,λl l' b c c' h h'=>ok1.inj l l' b c c' ((e_r _ _).1 h).2 ((e_r _ _).1 h').2,ok1.os,ok1.tape,ok1.output,ok1.size,ok1.block,λl p hp h=>ok1.pin l p hp ((e_r _ _).1 h).2,by rw[e_F];exact ok1.ff,by rw[e_F];exact ok1.gc,⟨λl k h=>?_,λl l' k h h'=>?_,λk h=>?_,ok1.sf.zs,by rw[e_Z];exact ok1.sf.ze⟩⟩
  .rcases(e_T l k).1 h with h|⟨rfl,rfl⟩
   .obtain⟨h1,h2,h3,h4⟩:=ok1.sf.tb l k h
    simp_all
   refine⟨⟨hsb.1,hnew⟩,by simp_all,λo' c' h'=>?_,.mk (by rw[ea _ _ _ _ hbb];exact hhs)⟩
   obtain⟨h5,h6⟩:=(e_r _ _).1 h'
   exact h5 (ok.inj _ _ _ _ _ h6 hrs)
  .rcases(e_T l k).1 h with h|⟨rfl,rfl⟩<;>rcases(e_T l' k).1 h' with h'|⟨rfl,h'⟩
   .exact ok1.sf.tt l l' k h h'
   .simp_all
   .simp_all
   rfl
  obtain⟨h1,h2,h3,h4⟩:=ok1.sf.zc k h
  simp_all
 have kg:KG s s E w E' (w.setRow b arr'):=⟨λl p hl h=>(e_r _ _).2 ⟨hl,h⟩,λg k h=>by rw[e_H];exact h,λg k h=>hk.heap g k h,λl k _ h=>⟨(e_T l k).2 (.inl h),(hk.T l k h).2⟩,λk h=>⟨by simp_all,(hk.Z k h).2⟩,λl _=>by rw[e_n]⟩
 refine⟨E',JX hR ok' kg h1 h2 h3 h4 ?_ (λl b' c' hl hlo hrl=>ea _ _ _ _ (λe=>by subst e;exact hlo (ok.inj _ _ _ _ _ hrl hr))) (λl b' c' _ _ _ hf=>by simp_all) (λl p h=>hR.dom l p ((e_r _ _).1 h).2) (λl k h=>?_)⟩
 .refine .inr ⟨by simp_all,b,c,(e_r _ _).2 ⟨Ne.symm hso,hr⟩,⟨λj=>if j=i then some (bs,cs) else hd j,⟨arr',hw',by omega⟩,by simpa using hS.len,hS.cap,λj ej hj=>?_,λj ej hj _=>?_,λj ej hj _=>?_,λj j' k c1 c2 hj hj' _ _ q1 q2=>?_,λ_ _ _ _ h=>by cases h⟩,by simp_all⟩
  .rw[hcell _ oaa]
   rw[abI] at hj
   by_cases e1:i=j
   .subst e1
    rw[if_pos rfl,if_pos hil] at hj;cases hj
    exact hS.a i e he
   rw[if_neg e1] at hj;exact hS.a j ej hj
  .rw[abI] at hj
   by_cases e1:i=j
   .subst e1
    rw[if_pos rfl,if_pos hil] at hj;cases hj
    rw[fa hw',hget,if_pos rfl,if_pos rfl,hv,hn];rfl
   rw[if_neg e1] at hj
   rw[hcell _ oaa,if_neg (Ne.symm e1)]
   refine hS.s j ej hj ?_
   rcases hh with rfl|⟨A,n',k',rfl⟩
   .rfl
   exact nH e1
  .rw[abI] at hj
   by_cases e1:i=j
   .subst e1
    rw[if_pos rfl,if_pos hil] at hj;cases hj
    rw[if_pos rfl]
    exact⟨(e_T o bs).2 (.inr ⟨rfl,rfl⟩),hrow.keep (ea _ _ _ _ hbb)⟩
   rw[if_neg e1] at hj
   rw[if_neg (Ne.symm e1)]
   refine(hS.ne j ej hj ?_).keep (λk c' _ hk'=>(e_T o k).2 (.inl hk')) (λk c' _ hk'=>ea _ _ _ _ (hTb o k hk'))
   rcases hh with rfl|⟨A,n',k',rfl⟩
   .rfl
   exact nH e1
  have hole_ne:∀j,j≠i->Ab hole j=false:=λj hj=>by
   rcases hh with rfl|⟨A,n',k',rfl⟩
   .rfl
   exact nH (Ne.symm hj)
  have hR':∀j,j≠i->j<els.length->∀k c',hd j=some (k,c')->E.T o k:=λj hj hjl k c' hdj=>by
   have:=hS.ne j _ (List.getElem?_eq_getElem hjl) (hole_ne j hj)
   rw[hdj] at this
   exact this.1
  have hj:j<els.length:=by simpa using hj
  have hj':j'<els.length:=by simpa using hj'
  by_cases e1:j=i<;>by_cases e2:j'=i
  .rw[e1,e2]
  .grind
  .grind
  rw[if_neg e1] at q1;rw[if_neg e2] at q2
  exact hS.inj j j' k c1 c2 hj hj' (hole_ne j e1) (hole_ne j' e2) q1 q2
 rcases(e_T l k).1 h with h|⟨rfl,_⟩
 .exact hR.td l k h
 exact dr hol
end
section
variable {P:Program} {N:Nat} {sl sl1 sl2:Lab} {ob ob1:Laa} {nx:Nat} {AQ:Exit->St->Prop}
theorem X5 {cx:Cx} {o:Nat} {z:Ob} (hR:Rel N cx E ⟨sl,ob,nx⟩ a w) (hz:dm E w o z):Rel N cx E ⟨sl,(o,z)::ob,nx⟩ a w:=
 ⟨hR.ok,hR.dom,λl x h=>by
  by_cases e:o=l
  .subst e;rw[cU] at h;simp_all
  rw[b7 _ _ e] at h;exact hR.obs l x h,hR.sl,hR.dfr,hR.size,hR.td⟩
theorem KS {c:Code} {o:Nat} {els:List (Int×List Int)} {e:Int×List Int} (ho:go ob o=some (.cxo o ty nt els none)) (he:els[i]?=some e) (hol:nlt o nx=true) (hrv:rsv nx=false)
 (h1:oO nx sl=some sl1) (h2:CP o sl1=some sl2) (h3:B9 nx (B9 o ob)=ob1) (h4:okO nx o ob1=true)
 (hnil:e.2=[]->AWC P N c ⟨sl2,(o,.cxo o ty nt els (some (i,none,0,0)))::ob1,nx⟩ AQ)
 (hcons:∀k cc,AWC P N c ⟨sl2,(nx,.abs nx (Hid.loc nt (some ⟨k,0,none⟩) e.2.length cc e.2))::(o,.cxo o ty nt els (some (i,some ⟨k,0,none⟩,e.2.length,cc)))::ob1,nx+1⟩ AQ):AWC P N c ⟨sl,ob,nx⟩ AQ:=by
 intro cx E a w hR
 have ok:=hR.ok
 obtain⟨hnn,b,cb,hd,hr,hS,hF⟩:=DI he (hR.obs o _ ho)
 have hil:i<els.length:=(aaa.1 he).1
 have hs0:=hS.s i e he rfl
 have hn0:=hS.ne i e he rfl
 cases hdi:hd i with
 |none=>
  rw[hdi] at hs0 hn0
  refine hnil hn0 cx E a w (JX hR ok ⟨λ_ _ _ h=>h,λ_ _ h=>h,λ_ _ _=>rfl,λ_ _ _ h=>⟨h,rfl⟩,λb _=>⟨by assumption,sv.refl w b⟩,λ_ _=>Iff.rfl⟩ h1 h2 h3 h4 (.inr ⟨hnn,b,cb,hr,⟨hd,hS.blk,hS.len,hS.cap,hS.a,λj ej hj _=>hS.s j ej hj rfl,λj ej hj _=>hS.ne j ej hj rfl,λj j' k c1 c2 hj hj' _ _=>hS.inj j j' k c1 c2 hj hj' rfl rfl,λj A n k h=>?_⟩,hF⟩) (λ_ _ _ _ _ _=>rfl) (λ_ _ _ _ _ _ h=>h) hR.dom hR.td)
  cases h
  exact hs0
 |some p=>
  obtain⟨k,cc⟩:=p
  rw[hdi] at hs0 hn0
  obtain⟨hTk,hrow⟩:=hn0
  obtain⟨t1,t2,t3,t4⟩:=ok.sf.tb o k hTk
  obtain⟨E',hE'⟩:∃E':Env,E'={E with r:=λl=>if l=nx then some (k,cc) else E.r l,T:=λl j=>E.T l j/\j≠k,n:=λl=>l≠nx/\E.n l}:=⟨_,rfl⟩
  have e_r:∀l p,E'.r l=some p↔(l=nx/\p=(k,cc))\/(l≠nx/\E.r l=some p):=λl p=>by
   subst hE'
   grind
  have e_T:∀l j,E'.T l j↔E.T l j/\j≠k:=λl j=>by simp_all
  have e_F:E'.F=E.F:=by subst hE';rfl
  have e_G:E'.G=E.G:=by subst hE';rfl
  have e_Z:E'.Z=E.Z:=by subst hE';rfl
  have e_n:∀l,E'.n l↔l≠nx/\E.n l:=λl=>by simp_all
  have e_H:∀g,E'.H g=E.H g:=λg=>by cases g;exact e_F;exact e_G
  have hnx:∀l p,E.r l=some p->l≠nx:=λl p h=>abT (hR.dom l p h)
  have hon:o≠nx:=abT (dr hol)
  have ok':dJ cx E' w:=by
   refine⟨by rw[e_F];exact ok.fb,by rw[e_F,e_G];exact ok.gf,by rw[e_G];exact ok.gn,λl j c h=>?_,λl l' j c c' h h'=>?_,ok.os,ok.tape,ok.output,ok.size,ok.block,λl p hp h=>?_,by rw[e_F];exact ok.ff,by rw[e_F];exact ok.gc,⟨λl j h=>?_,λl l' j h h'=>ok.sf.tt l l' j ((e_T _ _).1 h).1 ((e_T _ _).1 h').1,λj h=>?_,ok.sf.zs,by rw[e_Z];exact ok.sf.ze⟩⟩
   .rcases(e_r _ _).1 h with⟨rfl,hp⟩|⟨_,h⟩
    .simp_all
    exact ok.rb l j c h
   .rcases(e_r _ _).1 h with⟨rfl,hp⟩|⟨q1,h⟩<;>rcases(e_r _ _).1 h' with⟨rfl,hp'⟩|⟨q2,h'⟩
    .rfl
    .simp_all
    .simp_all
    exact ok.inj l l' j c c' h h'
   .rcases(e_r _ _).1 h with⟨rfl,hp'⟩|⟨_,h⟩
    .rw[rJ hrv] at hp;cases hp
    exact ok.pin l p hp h
   .obtain⟨h,hj⟩:=(e_T _ _).1 h
    obtain⟨u1,u2,u3,u4⟩:=ok.sf.tb l j h
    simp_all
   obtain⟨u1,u2,u3,u4⟩:=ok.sf.zc j h
   grind
  have kg:KG nx o E w E' w:=⟨λl p hl h=>(e_r _ _).2 (.inr ⟨hl,h⟩),λg j h=>by rw[e_H];exact h,λ_ _ _=>rfl,λl j hl h=>⟨(e_T _ _).2 ⟨h,λe=>by subst e;exact hl (ok.sf.tt l o j h hTk)⟩,rfl⟩,λj h=>⟨by simp_all,sv.refl w j⟩,λl hl=>by simp_all⟩
  refine hcons k cc cx E' a w (X5 (JX hR ok' kg h1 h2 h3 h4 (.inr ⟨by simp_all,b,cb,(e_r _ _).2 (.inr ⟨hon,hr⟩),⟨hd,hS.blk,hS.len,hS.cap,hS.a,λj ej hj _=>hS.s j ej hj rfl,λj ej hj hjh=>(hS.ne j ej hj rfl).keep (λk' c' hk' hT=>(e_T o k').2 ⟨hT,λek=>?_⟩) (λ_ _ _ _=>rfl),λj j' k c1 c2 hj hj' _ _=>hS.inj j j' k c1 c2 hj hj' rfl rfl,λj A n k' h=>?_⟩,by simp_all⟩)
   (λ_ _ _ _ _ _=>rfl) (λl b' c' _ _ _ h=>by simp_all) (λl p h=>?_) (λl j h=>abS (hR.td l j ((e_T _ _).1 h).1))) (.inr ⟨by simp_all,k,cc,(e_r _ _).2 (.inl ⟨rfl,rfl⟩),⟨rfl,rfl,rfl,hrow⟩,by simp_all⟩))
  .subst ek
   have:=hS.inj j i k' c' cc (aaa.1 hj).1 hil rfl rfl hk' hdi
   subst this
   simp[Ab] at hjh
  .cases h;exact hs0
  rcases(e_r _ _).1 h with⟨rfl,_⟩|⟨_,h⟩
  .omega
  exact abS (hR.dom l p h)
theorem YE {o:Nat} {al:List Int} (ho:go ob o=some (.rown ty 2 (al.map λa=>[.i .i64 a,.k none 0 0]) g)) (h3:B9 o ob=ob1):dS N ⟨sl,ob,nx⟩ ⟨sl,(o,.cxo o ty nt (al.map λa=>(a,[])) none)::ob1,nx⟩:=by
 subst h3
 intro cx E a w hR
 refine⟨E,hR.ok,hR.dom,λl x h=>?_,hR.sl,hR.dfr,hR.size,hR.td⟩
 by_cases e:o=l
 .subst e
  rw[cU] at h;cases h
  rcases hR.obs o _ ho with⟨h0,h1⟩|⟨h0,b,c,arr,hr,hh,h1,h2,h3,h4,h5,h6⟩
  .refine .inl ⟨h0,?_⟩
   show al.map _=[]
   simp_all
  have key:∀i e,(al.map λa=>((a,[]):Int×List Int))[i]?=some e->w.cell? ⟨b,i*2,none⟩=some (.int .i64 e.1)/\w.cell? ⟨b,i*2+1,none⟩=some (.slice none 0 0)/\e.2=[]:=by
   intro i e hi
   rw[aaH] at hi
   cases ha:al[i]? with
   |none=>simp_all
   |some x=>
    rw[ha] at hi;cases hi
    have:=rI (sz:=2) (i:=i) (e:=[.i .i64 x,.k none 0 0]) h5 h4 (by simp_all)
    rw[rdL,rdL] at this
    obtain⟨⟨u,u1,u2⟩,⟨v,v1,v2⟩,_⟩:=this
    simp only[rdD] at u2 v2
    simp_all
  refine .inr ⟨h0,b,c,hr,⟨λ_=>none,⟨arr,hh,h1⟩,by simp_all,h3,λi e hi=>(key i e hi).1,λi e hi _=>?_,λi e hi _=>(key i e hi).2.2,λ_ _ _ _ _ _ _ _ _ h=>(by cases h),λ_ _ _ _ h=>(by cases h)⟩,h6⟩
  rw[(key i e hi).2.2];exact(key i e hi).2.1
 rw[b7 _ _ e] at h
 exact hR.obs l x (AX h).2
def TZ (e:Int×List Int):List D:=[.i .i64 e.1,.l (e.2.map eI)]
theorem OE {o:Nat} {els:List (Int×List Int)} (ho:go ob o=some (.cxo o ty nt els none)) (h1:oO nx sl=some sl1) (h2:CP o sl1=some sl2) (h3:B9 nx (B9 o ob)=ob1) (h4:okO nx o ob1=true):
 dS N ⟨sl,ob,nx⟩ ⟨sl2,(o,.rown ty 2 (els.map TZ) true)::ob1,nx⟩:=by
 intro cx E a w hR
 have ok:=hR.ok
 obtain⟨E',hE'⟩:∃E':Env,E'={E with F:=λj=>E.F j\/E.T o j,G:=λj=>E.G j\/E.T o j,T:=λl j=>l≠o/\E.T l j}:=⟨_,rfl⟩
 have e_T:∀l j,E'.T l j↔l≠o/\E.T l j:=λl j=>by simp_all
 have e_F:∀j,E'.F j↔E.F j\/E.T o j:=λj=>by simp_all
 have e_G:∀j,E'.G j↔E.G j\/E.T o j:=λj=>by simp_all
 have e_r:E'.r=E.r:=by subst hE';rfl
 have e_Z:E'.Z=E.Z:=by subst hE';rfl
 have e_n:E'.n=E.n:=by subst hE';rfl
 have ok':dJ cx E' w:=by
  refine⟨λj h=>?_,λj h=>?_,λj h=>?_,by rw[e_r];exact ok.rb,by rw[e_r];exact ok.inj,ok.os,ok.tape,ok.output,ok.size,ok.block,by rw[e_r];exact ok.pin,λj h=>?_,λj h h'=>?_,⟨λl j h=>?_,λl l' j h h'=>ok.sf.tt l l' j ((e_T _ _).1 h).2 ((e_T _ _).1 h').2,λj h=>?_,ok.sf.zs,by rw[e_Z];exact ok.sf.ze⟩⟩
  .rcases(e_F j).1 h with h|h
   .exact ok.fb j h
   exact(ok.sf.tb o j h).1.1
  .rcases(e_G j).1 h with h|h
   .exact(e_F j).2 (.inl (ok.gf j h))
   simp_all
  .rcases(e_G j).1 h with h|h
   .exact ok.gn j h
   exact .inl (ok.sf.tb o j h).1.2
  .rcases(e_F j).1 h with h|h
   .exact ok.ff j h
   exact .inr (ok.sf.tb o j h).1.2
  .rcases(e_F j).1 h with h|h
   .exact ok.gc j h h'
   exact(ok.sf.tb o j h).2.2.2
  .obtain⟨hl,h⟩:=(e_T _ _).1 h
   obtain⟨u1,u2,u3,u4⟩:=ok.sf.tb l j h
   refine⟨u1,λhf=>?_,by simp_all,u4⟩
   rcases(e_F j).1 hf with hf|hf
   .exact u2 hf
   exact hl (ok.sf.tt l o j h hf)
  obtain⟨u1,u2,u3,u4⟩:=ok.sf.zc j h
  refine⟨u1,λhf=>?_,by simp_all,u4⟩
  rcases(e_F j).1 hf with hf|hf
  .exact u2 hf
  have:=(ok.sf.tb o j hf).1.2;omega
 have hFr:∀l b c,E.r l=some (b,c)->¬E.F b->¬E'.F b:=λl b c hr hn hf=>by
  rcases(e_F b).1 hf with hf|hf
  .exact hn hf
  exact(ok.sf.tb o b hf).2.2.1 l c hr
 have kg:KG nx o E w E' w:=⟨λl p _ h=>by simp_all,λg j h=>by cases g;exact(e_F j).2 (.inl h);exact(e_G j).2 (.inl h),λ_ _ _=>rfl,λl j hl h=>⟨(e_T _ _).2 ⟨hl,h⟩,rfl⟩,λj h=>⟨by simp_all,sv.refl w j⟩,λl _=>by rw[e_n]⟩
 refine⟨E',JX hR ok' kg h1 h2 h3 h4 ?_ (λ_ _ _ _ _ _=>rfl) (λl b c _ _ hr=>hFr l b c hr) (by rw[e_r];exact hR.dom) (λl j h=>hR.td l j ((e_T _ _).1 h).2)⟩
 rcases hR.obs o _ ho with⟨h0,h0'⟩|⟨h0,b,c,hr,⟨hd,hS⟩,hF⟩
 .have h0':els=[]:=h0'
  exact .inl ⟨by simp_all,by rw[h0'];rfl⟩
 obtain⟨arr,hh,ha⟩:=hS.blk
 refine .inr ⟨by simp_all,b,c,arr,by simp_all,hh,ha,by simpa using hS.len,hS.cap,(λe he=>by obtain⟨x,_,rfl⟩:=aa7.1 he;rfl),ww (sz:=2) (λe he=>by obtain⟨x,_,rfl⟩:=aa7.1 he;rfl) λi e hi=>?_,hFr o b c hr hF⟩
 rw[aaH] at hi
 cases hx:els[i]? with
 |none=>simp_all
 |some x=>
  rw[hx] at hi;cases hi
  rw[TZ,rdL,rdL,rdL,aaj]
  refine⟨⟨_,hS.a i x hx,by rw[rdD]⟩,⟨_,hS.s i x hx rfl,?_⟩,trivial⟩
  have hne:=hS.ne i x hx rfl
  rw[rdD]
  cases hdi:hd i with
  |none=>
   rw[hdi] at hne
   have hne:x.2=[]:=hne
   rw[hne];exact⟨none,0,rfl,aah _,.inl rfl⟩
  |some p=>
   obtain⟨k,cc⟩:=p
   rw[hdi] at hne
   exact⟨some ⟨k,0,none⟩,cc,by simp[nv],by simpa using hne.2.2.1,.inr ⟨k,0,rfl,(e_G k).2 (.inr hne.1),hne.2.rd _⟩⟩
end
def UK (f:C->Option C):Ob->Option Ob
 | .abs l h=>some (.abs l h)
 |x=>G5 f x
theorem PB {E':Env} {f:C->Option C} {o:Nat} {x y:Ob} (h:UK f x=some y) (hf:∀c c' u,f c=some c'->cvC E w c u->cvC E' w c' u) (hr:∀p,E.r l=some p->E'.r o=some p) (hn:E'.n o↔E.n l)
 (hH:∀g b,E.H g b->E'.H g b) (hF:∀b,¬E.F b->¬E'.F b) (hT:∀j z,x= .abs j z->∀b,E.T j b->E'.T j b) (hx:dm E w l x):dm E' w o y:=by
 cases x with
 |abs j z=>
  cases h
  rcases hx with⟨h1,h2⟩|⟨h1,b,c,k1,k2,k3⟩
  .exact .inl ⟨hn.2 h1,h2⟩
  exact .inr ⟨λk=>h1 (hn.1 k),b,c,hr _ k1,z.st _ _ _ _ w w k2 (hT j z rfl) rfl (λ_ _=>rfl),hF b k3⟩
 |var t cs=>exact BA (x:=.var t cs) h hf (λb c _ hr'=>hr _ hr') hn hH (λb c _ _=>hF b) hx
 |row t sz els g m=>exact BA (x:=.row t sz els g m) h hf (λb c _ hr'=>hr _ hr') hn hH (λb c _ _=>hF b) hx
 |rown t sz els g=>exact BA (x:=.rown t sz els g) h hf (λb c _ hr'=>hr _ hr') hn hH (λb c _ _=>hF b) hx
def LZ (f:C->Option C) (ob:Laa):Lac->Option Laa
 |[]=>some []
 |(k,o)::r=>match go ob o with
  |some x=>match UK f x,LZ f ob r with
   |some y,some ys=>some ((k,y)::ys)
   |_,_=>none
  |none=>none
theorem L0 {f:C->Option C} {ob:Laa}:∀{m:Lac} {xs:Laa} {l:Nat} {x:Ob},LZ f ob m=some xs->go xs l=some x->∃o x0,dY m l=some o/\go ob o=some x0/\UK f x0=some x
 |[],xs,l,x,h,hg=>by simp[LZ] at h;subst h;cases hg
 |(k,o)::r,xs,l,x,h,hg=>by
  simp only[LZ] at h
  split at h
  .rename_i x0 h0
   split at h
   .rename_i y ys h1 h2
    simp at h;subst h
    by_cases e:k=l
    .subst e;rw[cU] at hg;cases hg;exact⟨o,x0,by simp[dY],h0,h1⟩
    rw[b7 _ _ e] at hg
    obtain⟨o',x',a1,a2,a3⟩:=L0 h2 hg
    exact⟨o',x',by simp only[dY,nH e];exact a1,a2,a3⟩
   cases h
  cases h
def UL (m:Lac):Laa->Option Laa
 |[]=>some []
 |(k,x)::r=>match dY m k,UK (rlC m) x,UL m r with
  |some o,some y,some ys=>some ((o,y)::ys)
  |_,_,_=>none
theorem PC {m:Lac} (hinj:∀a a' b,dY m a=some b->dY m a'=some b->a=a'):∀{ys ys':Laa} {o:Nat} {y':Ob},UL m ys=some ys'->go ys' o=some y'->∃k y,dY m k=some o/\go ys k=some y/\UK (rlC m) y=some y'
 |[],ys',o,y',h,hg=>by simp[UL] at h;subst h;cases hg
 |(k,x)::r,ys',o,y',h,hg=>by
  simp only[UL] at h
  split at h
  .rename_i o1 y1 ys1 h1 h2 h3
   simp at h;subst h
   by_cases e:o1=o
   .subst e;rw[cU] at hg;cases hg;exact⟨k,x,h1,cU _ _ _,h2⟩
   rw[b7 _ _ e] at hg
   obtain⟨k',y,a1,a2,a3⟩:=PC hinj h3 hg
   have hne:k≠k':=λe'=>by subst e';rw[h1] at a1;cases a1;exact e rfl
   exact⟨k',y,a1,by rw[b7 _ _ hne];exact a2,a3⟩
  cases h
def kpC (pn:Lac):C->C
 | .p o k=>match dY pn o with
  |some _=>.p o k
  |none=>.any
 | .d _ (.i k n)=>.d false (.i k n)
 | .d _ (.b b)=>.d false (.b b)
 | .d _ (.str s)=>.d false (.str s)
 |_=>.any
def kpT (pn:Lac):T->T
 | .v (.c c)=>.v (.c (kpC pn c))
 |_=>.any
def kpS (pn:Lac):Lab->Lab
 |[]=>[]
 |(k,t)::r=>(k,kpT pn t)::kpS pn r
theorem UD (pn:Lac):∀(sl:Lab) (k:Nat),gt (kpS pn sl) k=kpT pn (gt sl k)
 |[],k=>rfl
 |(j,t)::r,k=>by
  rw[kpS]
  by_cases e:j=k
  .subst e;rw[d4,d4]
  rw[di _ _ e,di _ _ e];exact UD pn r k
def Z2 (m:Lac) (p:Nat×Nat):Bool:=m.any λq=>d0 q.1 p.1&&d0 q.2 p.2
theorem JF {m:Lac} {p:Nat×Nat} (h:Z2 m p=true):p∈m:=by
 obtain⟨q,h1,h2⟩:=aaD.1 h
 simp only[hV] at h2
 have a:=aad h2.1
 have b:=aad h2.2
 obtain⟨q1,q2⟩:=q
 obtain⟨p1,p2⟩:=p
 simp only at a b
 subst a;subst b;exact h1
def YW (m m':Lac) (ys:Laa) (nx nx':Nat):Bool:=
 oR (m.map (·.1))&&oR (m.map (·.2))&&oR (m'.map (·.1))&&oR (m'.map (·.2))&&
 m.all (λp=>nlt p.1 nx&&(!rsv p.2||rsv p.1)&&(!rsp p.1||Z2 m' p&&match go ys p.1 with|some (.var _ _)=>true|_=>false))&&
 m'.all (λp=>nlt p.2 nx'&&((rsp p.1&&Z2 m p)||(!rsv p.1&&!rsv p.2)))
def Ea (n:Nat):Laa->Bool
 |[]=>true
 |(_,.abs j _)::r=>nlt j n&&Ea n r
 |_::r=>Ea n r
theorem Eb {n k j:Nat} {z:Hid}:∀{ob:Laa},Ea n ob=true->go ob k=some (.abs j z)->j<n
 |[],_,h=>by cases h
 |(k',x)::r,h0,h=>by
  by_cases e:k'=k
  .subst e;rw[cU] at h;cases h
   simp only[Ea,hV] at h0;exact dr h0.1
  rw[b7 _ _ e] at h
  cases x<;>first|(simp only[Ea,hV] at h0;exact Eb h0.2 h)|(simp only[Ea] at h0;exact Eb h0 h)
def pinned (m:Lac):Lac:=(m.filter λp=>rsp p.1).map λp=>(p.2,p.1)
theorem o_inl  {N':Nat} {d:Tmp}  {ps:String} {af:Array Edge} {gd:Option (Nat×Bool)}   {c:Code} {args:List Operand} {tys:Array TypeId}  {ob obs2:Laa}  {ts ts2:List T} {ys ys':Laa} {out':T} {m m':Lac}  {rs:List ResultVar}
 (hf:P.funcs[f]?=some fn) (hb:fn.body=some c) (hnm:(fn.name== "runtime.NumGoroutine")=false) (hN:fn.ntmps=N') (hrs:fn.results.toList=rs) (h:AWC P N' c ⟨sl0,obs2,nx⟩ (xu N' P rs ys out []))
 (ht:Bt sl args=some ts) (ha:xg (rlC (inv m)) ts=some ts2) (hle:aaz ts2.length N'=true) (hs0:xB 0 ts2=sl0) (hx:LZ (rlC (inv m)) ob m=some obs2)
 (hm:YW m m' ys nx nx'=true) (hj:Ea nx' ys=true) (hy:UL m' ys=some ys') (ho:Bo (rlC m') out=some out') (hs:kpS (pinned m) sl=sl') (hd:nlt d N=true):
 AWO P N ⟨some d,.call ⟨.value (.func f),args.toArray,tys⟩,ty,ps,af,gd⟩ ⟨sl,ob,nx⟩ ⟨(d,out')::sl',ys',nx'⟩:=by
 subst hs0;subst hrs;subst hs
 intro cx E a w hR
 have ok:=hR.ok
 obtain⟨t1,t2⟩:=ub ht
 simp only[YW,hV,aag,aam,aax] at hm
 obtain⟨⟨⟨⟨⟨hm1,hm2⟩,hm3⟩,hm4⟩,hm5⟩,hm6⟩:=hm
 have ndm1:=kW hm1
 have ndm2:=kW hm2
 have ndm3:=kW hm3
 have ndm4:=kW hm4
 have inv_of:∀{k o},dY m k=some o->dY (inv m) o=some k:=λh=>jW (by rw[xT];exact ndm2) (rG.2 (eD h))
 have of_inv:∀{k o},dY (inv m) o=some k->dY m k=some o:=λh=>jW ndm1 (rG.1 (eD h))
 have inv_of':∀{k o},dY m' k=some o->dY (inv m') o=some k:=λh=>jW (by rw[xT];exact ndm4) (rG.2 (eD h))
 have of_inv':∀{k o},dY (inv m') o=some k->dY m' k=some o:=λh=>jW ndm3 (rG.1 (eD h))
 obtain⟨E2,hE2⟩:∃E2:Env,E2={E with r:=λk=>match dY m k with|some o=>E.r o|none=>none,n:=λk=>match dY m k with|some o=>E.n o|none=>False}:=⟨_,rfl⟩
 have e_r:∀k o,dY m k=some o->E2.r k=E.r o:=λk o h=>by subst hE2;simp only[h]
 have e_n:∀k o,dY m k=some o->(E2.n k↔E.n o):=λk o h=>by subst hE2;simp only[h]
 have e_r':∀k p,E2.r k=some p->∃o,dY m k=some o/\E.r o=some p:=λk p h=>by
  subst hE2
  simp only at h
  split at h
  .rename_i o h1;exact⟨o,h1,h⟩
  cases h
 have e_F:E2.F=E.F:=by subst hE2;rfl
 have e_G:E2.G=E.G:=by subst hE2;rfl
 have e_T:E2.T=E.T:=by subst hE2;rfl
 have e_Z:E2.Z=E.Z:=by subst hE2;rfl
 have e_H:∀g,E2.H g=E.H g:=λg=>by cases g;exact e_F;exact e_G
 let cx2:Cx:=⟨cx.w0,cx.W,E2.r,cx.F0,cx.Z,cx.gw,cx.G0⟩
 have ok2:dJ cx2 E2 w:=by
  refine⟨by rw[e_F];exact ok.fb,by rw[e_F,e_G];exact ok.gf,by rw[e_G];exact ok.gn,λk b c h=>?_,λk k' b c c' h h'=>?_,ok.os,ok.tape,ok.output,ok.size,ok.block,λ_ _ _ h=>h,by rw[e_F];exact ok.ff,by rw[e_F];exact ok.gc,⟨λl b h=>?_,by rw[e_T];exact ok.sf.tt,λb h=>?_,ok.sf.zs,by rw[e_Z];exact ok.sf.ze⟩⟩
  .obtain⟨o,h1,h2⟩:=e_r' k _ h
   obtain⟨h3,h4⟩:=ok.rb o b c h2
   refine⟨h3,h4.imp id λ⟨q1,q2⟩=>⟨q1,?_⟩⟩
   rcases(hm5 _ (eD h1)).1.2 with h|h
   .rw[h] at q2;cases q2
   exact h
  .obtain⟨o,h1,h2⟩:=e_r' k _ h
   obtain⟨o',h1',h2'⟩:=e_r' k' _ h'
   have:=ok.inj o o' b c c' h2 h2';subst this
   have q1:=inv_of h1
   have q2:=inv_of h1'
   rw[q1] at q2;exact Option.some.inj q2
  .rw[e_T] at h
   obtain⟨h1,h2,h3,h4⟩:=ok.sf.tb l b h
   exact⟨h1,by rw[e_F];exact h2,λk c hk=>by obtain⟨o,_,h5⟩:=e_r' k _ hk;exact h3 o c h5,h4⟩
  obtain⟨h1,h2,h3,h4⟩:=ok.sf.zc b h
  exact⟨h1,by rw[e_F];exact h2,λk c hk=>by obtain⟨o,_,h5⟩:=e_r' k _ hk;exact h3 o c h5,h4⟩
 have hin:∀c c' u,rlC (inv m) c=some c'->cvC E w c u->cvC E2 w c' u:=by
  intro c c' u h hc
  cases c with
  |d g x=>cases h;exact cW (λ_ _=>rfl) (λb hb=>by rw[e_H];exact hb) _ _ hc
  |nil=>cases h;exact hc
  |any=>cases h;trivial
  |fn f=>cases h;exact hc
  |w l n=>
   simp only[rlC] at h
   split at h
   .rename_i k h1;cases h
    obtain⟨b,cc,q1,q2⟩:=hc
    exact⟨b,cc,(e_r k l (of_inv h1)).trans q1,q2⟩
   cases h
  |wn l n=>
   simp only[rlC] at h
   split at h
   .rename_i k h1;cases h
    rcases hc with⟨q0,q1⟩|⟨q0,b,cc,q1,q2⟩
    .exact .inl ⟨(e_n k l (of_inv h1)).2 q0,q1⟩
    exact .inr ⟨λq=>q0 ((e_n k l (of_inv h1)).1 q),b,cc,(e_r k l (of_inv h1)).trans q1,q2⟩
   cases h
  |p l n=>
   simp only[rlC] at h
   split at h
   .rename_i k h1;cases h
    obtain⟨b,cc,q1,q2⟩:=hc
    exact⟨b,cc,(e_r k l (of_inv h1)).trans q1,q2⟩
   cases h
  |_=>cases h
 have hTV:TV E2 w ts2 (args.map a.eval):=Fp hin ha t1 (λx t hm=>by have:=hR.op x;rwa [Lk.mem t2 x t hm] at this)
 obtain⟨v1,v2⟩:=DE 0 hTV
 have hle':ts2.length<=N':=aaO hle
 obtain⟨vals,hvals⟩:∃vals:Array Value,vals=(args.map a.eval).toArray:=⟨_,rfl⟩
 have hsz:vals.size=ts2.length:=by rw[hvals];simpa using v1
 have hR2:Rel N' cx2 E2 ⟨xB 0 ts2,obs2,nx⟩ {tmps:=vals++aak (fn.ntmps-vals.size) undef,defers:=[]} w:=by
  refine⟨ok2,λk p h=>?_,λk x h=>?_,λk=>?_,rfl,by simp;omega,λl b h=>by rw[e_T] at h;exact hR.td l b h⟩
  .obtain⟨o,h1,_⟩:=e_r' k p h
   exact dr (hm5 _ (eD h1)).1.1
  .obtain⟨o,x0,h1,h2,h3⟩:=L0 hx h
   exact PB h3 hin (λp hp=>(e_r k o h1).trans hp) (e_n k o h1) (λg b hb=>by rw[e_H];exact hb) (λb hb=>by rw[e_F];exact hb) (λj z _ b hb=>by rw[e_T];exact hb) (hR.obs o x0 h2)
  by_cases hk:k<ts2.length
  .obtain⟨u,h3,h4⟩:=(v2 k).1 ⟨aas _,by omega⟩
   have:(vals++aak (fn.ntmps-vals.size) undef).getD k undef=u:=by
    have h5:vals[k]?=some u:=by rw[hvals];simpa using h3
    have h6:(vals++aak (fn.ntmps-vals.size) undef)[k]?=some u:=by rw[Array.getElem?_append_left oaa];exact h5
    simp[h6]
   rw[this];exact h4
  have:=(v2 k).2 oaa
  show cvT _ w (gt (xB 0 ts2) k) _
  rw[this];trivial
 have hwp:=h cx2 E2 _ w hR2
 have hcalls:Calls P f vals w λe w'=>∃v E',e= .returned v/\dJ cx2 E' w'/\cvT E' w' out v/\(∀l y,go ys l=some y->dm E' w' l y):=by
  refine calls_of_wp hf hb (wp_mono hwp ?_)
  rintro e a' w' ⟨E',s',hR',hq⟩
  have fin:(∃s'' vs,dS N' s' s''/\pD P s'' fn.results.toList vs/\U9 vs=out/\LoA s''.ob ys/\LoA s''.ob [])->
   a'.defers=[]/\∃v,(results fn a'.tmps).run P w'= .ok v w'/\∃v' E',Ending.returned v= .returned v'/\dJ cx2 E' w'/\cvT E' w' out v'/\(∀l y,go ys l=some y->dm E' w' l y):=by
   rintro⟨s'',vs,hw,hres,ho,hys,_⟩
   obtain⟨E'',hR''⟩:=hw _ _ _ _ hR'
   obtain⟨us,k1,k2⟩:=xv hR'' hres
   have hmm:(fn.results.mapM (nQ a'.tmps)).run P w'= .ok us.toArray w':=by
    rw[<-aaV (xs:=fn.results),List.mapM_toArray]
    simp only[Sem.run_map,k1]
    rfl
   have hrr:results fn a'.tmps=(fn.results.mapM (nQ a'.tmps))>>= λvs=>pure (if h:vs.size=1 then vs[0] else .tuple vs):=rfl
   have hv:∃v,(results fn a'.tmps).run P w'= .ok v w'/\cvT E'' w' out v:=by
    subst ho
    match vs,us,k2 with
    |[],[],_=>exact⟨.tuple #[],by rw[hrr];simp[hmm],#[],rfl,trivial⟩
    |[v],[u],k2=>exact⟨u,by rw[hrr];simp[hmm],k2.1⟩
    |v1::v2::vs,u1::u2::us,k2=>exact⟨.tuple (u1::u2::us).toArray,by rw[hrr];simp[hmm],_,rfl,k2⟩
   obtain⟨v,q1,q2⟩:=hv
   exact⟨hR''.dfr,v,q1,v,E'',rfl,hR''.ok,q2,λl y h=>hR''.obs l y (IJ hys h)⟩
  cases e with
  |normal=>exact fin hq
  |ret=>exact fin hq
  |_=>exact hq.elim
 have hent:(callFunc f vals).run P w= .ok (.enter f vals) w:=by simp[callFunc,hf,hb];simpa using hnm
 unfold Oper.wp
 have hrun:(execOp a.eval ⟨some d,.call ⟨.value (.func f),args.toArray,tys⟩,ty,ps,af,gd⟩).run P w= .ok (.enter f vals) w:=by
  subst hvals
  simp only[execOp,resolve,Act.eval,Deferred.ofValue,Sem.run_bind,Sem.run_pure,Result.andThen_ok,invoke]
  simpa using hent
 rw[hrun,Oper.upon_enter]
 refine hcalls.mono ?_
 rintro e w' ⟨v,E',rfl,ok',hv,hobs⟩
 obtain⟨E3,hE3⟩:∃E3:Env,E3={E' with r:=λo=>match dY (inv m') o with|some k=>E'.r k|none=>none,n:=λo=>match dY (inv m') o with|some k=>E'.n k|none=>False,T:=λl b=>l<nx'/\E'.T l b}:=⟨_,rfl⟩
 have f_r:∀k o,dY m' k=some o->E3.r o=E'.r k:=λk o h=>by subst hE3;simp only[inv_of' h]
 have f_n:∀k o,dY m' k=some o->(E3.n o↔E'.n k):=λk o h=>by subst hE3;simp only[inv_of' h]
 have f_r':∀o p,E3.r o=some p->∃k,dY m' k=some o/\E'.r k=some p:=λo p h=>by
  subst hE3
  simp only at h
  split at h
  .rename_i k h1;exact⟨k,of_inv' h1,h⟩
  cases h
 have f_F:E3.F=E'.F:=by subst hE3;rfl
 have f_G:E3.G=E'.G:=by subst hE3;rfl
 have f_T:∀l b,E3.T l b↔l<nx'/\E'.T l b:=λl b=>by subst hE3;exact Iff.rfl
 have f_Z:E3.Z=E'.Z:=by subst hE3;rfl
 have f_H:∀g,E3.H g=E'.H g:=λg=>by cases g;exact f_F;exact f_G
 have hpin:∀k o p,rsp k=true->(k,o)∈m->E'.r k=some p->E.r o=some p:=λk o p hk hm hp=>by
  have h1:E2.r k=some p:=ok'.pin k p hk hp
  rwa [e_r k o (jW ndm1 hm)] at h1
 have ok3:dJ cx E3 w':=by
  refine⟨by rw[f_F];exact ok'.fb,by rw[f_F,f_G];exact ok'.gf,by rw[f_G];exact ok'.gn,λo b c h=>?_,λo o' b c c' h h'=>?_,ok'.os,ok'.tape,ok'.output,ok'.size,ok'.block,λo p ho h=>?_,by rw[f_F];exact ok'.ff,by rw[f_F];exact ok'.gc,⟨λl b h=>?_,λl l' b h h'=>ok'.sf.tt l l' b ((f_T _ _).1 h).2 ((f_T _ _).1 h').2,λb h=>?_,ok'.sf.zs,by rw[f_Z];exact ok'.sf.ze⟩⟩
  .obtain⟨k,h1,h2⟩:=f_r' o _ h
   obtain⟨h3,h4⟩:=ok'.rb k b c h2
   refine⟨h3,?_⟩
   rcases(hm6 _ (eD h1)).2 with⟨q1,q2⟩|⟨q1,q2⟩
   .exact(ok.rb o b c (hpin k o _ q1 (JF q2) h2)).2
   exact .inl (h4.resolve_right (λq=>by rw[q1] at q;cases q.2))
  .obtain⟨k,h1,h2⟩:=f_r' o _ h
   obtain⟨k',h1',h2'⟩:=f_r' o' _ h'
   have:=ok'.inj k k' b c c' h2 h2';subst this
   rw[h1] at h1';exact Option.some.inj h1'
  .obtain⟨k,h1,h2⟩:=f_r' o _ h
   rcases(hm6 _ (eD h1)).2 with⟨q1,q2⟩|⟨q1,q2⟩
   .exact ok.pin o p ho (hpin k o _ q1 (JF q2) h2)
   rw[rJ q2] at ho;cases ho
  .obtain⟨_,h⟩:=(f_T _ _).1 h
   obtain⟨h1,h2,h3,h4⟩:=ok'.sf.tb l b h
   exact⟨h1,by rw[f_F];exact h2,λo c ho=>by obtain⟨k,_,h5⟩:=f_r' o _ ho;exact h3 k c h5,h4⟩
  obtain⟨h1,h2,h3,h4⟩:=ok'.sf.zc b h
  exact⟨h1,by rw[f_F];exact h2,λo c ho=>by obtain⟨k,_,h5⟩:=f_r' o _ ho;exact h3 k c h5,h4⟩
 have hout:∀c c' u,rlC m' c=some c'->cvC E' w' c u->cvC E3 w' c' u:=by
  intro c c' u h hc
  cases c with
  |d g x=>cases h;exact cW (λ_ _=>rfl) (λb hb=>by rw[f_H];exact hb) _ _ hc
  |nil=>cases h;exact hc
  |any=>cases h;trivial
  |fn f=>cases h;exact hc
  |w l n=>
   simp only[rlC] at h
   split at h
   .rename_i k h1;cases h
    obtain⟨b,cc,q1,q2⟩:=hc
    exact⟨b,cc,(f_r l k h1).trans q1,q2⟩
   cases h
  |wn l n=>
   simp only[rlC] at h
   split at h
   .rename_i k h1;cases h
    rcases hc with⟨q0,q1⟩|⟨q0,b,cc,q1,q2⟩
    .exact .inl ⟨(f_n l k h1).2 q0,q1⟩
    exact .inr ⟨λq=>q0 ((f_n l k h1).1 q),b,cc,(f_r l k h1).trans q1,q2⟩
   cases h
  |p l n=>
   simp only[rlC] at h
   split at h
   .rename_i k h1;cases h
    obtain⟨b,cc,q1,q2⟩:=hc
    exact⟨b,cc,(f_r l k h1).trans q1,q2⟩
   cases h
  |_=>cases h
 have hinj':∀a a' b,dY m' a=some b->dY m' a'=some b->a=a':=λa a' b h h'=>by
  have h1:=inv_of' h
  rw[inv_of' h'] at h1;exact(Option.some.inj h1).symm
 refine⟨E3,ok3,λo p h=>?_,λo y h=>?_,λk=>?_,hR.dfr,by simpa [Act.put] using hR.size,λl b h=>((f_T _ _).1 h).1⟩
 .obtain⟨k,h1,_⟩:=f_r' o p h
  exact dr (hm6 _ (eD h1)).1
 .obtain⟨k,y0,h1,h2,h3⟩:=PC hinj' hy h
  refine PB h3 hout (λp hp=>(f_r k o h1).trans hp) (f_n k o h1) (λg b hb=>by rw[f_H];exact hb) (λb hb=>by rw[f_F];exact hb) (λj z e b hb=>(f_T _ _).2 ⟨Eb hj (e▸h2),hb⟩) (hobs k y0 h2)
 show cvT E3 w' (gt ((d,out')::kpS (pinned m) sl) k) ((a.put (some d) v).tmps.getD k undef)
 rw[iJ (by rw[hR.size];exact dr hd)]
 by_cases hk:d=k
 .subst hk;rw[d4,if_pos rfl];exact Bp hout ho hv
 rw[di _ _ hk,if_neg hk,UD]
 have h0:=hR.sl k
 simp only at h0
 cases hg:gt sl k with
 |tup ts=>trivial
 |any=>trivial
 |v vv=>
  cases vv with
  |agg cs=>trivial
  |c c=>
   rw[hg] at h0
   have h0:cvC E w c (a.tmps.getD k undef):=h0
   show cvC E3 w' (kpC (pinned m) c) _
   cases c with
   |p o j=>
    simp only[kpC]
    split
    .rename_i k' h1
     have hmem:=eD h1
     simp only[pinned,aa7,List.mem_filter,Prod.mk.injEq] at hmem
     obtain⟨⟨p1,p2⟩,⟨hp1,hp2⟩,hp3,hp4⟩:=hmem
     simp only at hp2 hp3 hp4
     subst hp3;subst hp4
     obtain⟨b,cc,q1,q2⟩:=h0
     have hh:=(hm5 _ hp1).2
     rcases hh with hh|⟨hh1,hh2⟩
     .rw[hh] at hp2;cases hp2
     split at hh2
     .rename_i t cs hgo
      obtain⟨b',c',arr,r1,_⟩:=hobs _ _ hgo
      have r2:=hpin _ _ _ hp2 hp1 r1
      rw[q1] at r2
      have r3:=f_r _ _ (jW ndm3 (JF hh1))
      exact⟨b,cc,by rw[r3,r1];exact r2.symm,q2⟩
     cases hh2
    trivial
   |d g x=>
    cases x<;>first|trivial|(simp only[kpC,cvC,rdD] at h0 ⊢;exact h0)
   |_=>trivial
theorem Tr {o:Oper} {needs:List (Operand×T)} (hn:els.length=n)
 (h:AWK P o needs nob (.v (.c (.w q n))) [(q,.row e sz els g true)] [] none):AWK P o needs nob (.v (.c (.d g (.l els)))) [(q,.row e sz els g false)] [] none:=by
 intro cx E a w ok hne hnob hfr
 obtain⟨hq1,hq2⟩:=hfr q _ (.head _)
 refine Oper.wp_mono ?_ (h cx E a w ok hne hnob (λl x hm=>by simp_all))
 rintro a' w' ⟨v,E',k1,ok',k3,⟨b,c,hr,hv⟩,k5,k6,k7⟩
 obtain⟨b',c',arr,hr',hh,ha,hlc,hmx,hes,hrd,hFm,_⟩:=k5 q _ (.head _)
 rw[hr] at hr';cases hr'
 have hF:=hFm rfl
 obtain⟨hb1,hb2⟩:=ok'.rb q b c hr
 have hb3:cx.w0.heap.size<=b:=by
  rcases hb2 with h|h
  .exact h
  simp_all
 let E2:Env:=⟨E'.r,λj=>E'.F j\/j=b,λj=>E'.G j\/(g=true/\j=b),E'.T,E'.Z,E'.n⟩
 have hH:∀g' j,E'.H g' j->E2.H g' j:=λg' j hj=>by cases g'<;>exact .inl hj
 have hold:∀l c',E.r l≠some (b,c'):=λl c' hl=>by
  have h1:=k3.r l _ (by simp) hl
  have:=ok'.inj _ _ _ _ _ h1 hr
  simp_all
 refine⟨v,E2,k1,⟨?_,?_,?_,ok'.rb,ok'.inj,ok'.os,ok'.tape,ok'.output,ok'.size,ok'.block,ok'.pin,λj hj=>hj.elim (ok'.ff j) (λe=>.inr (e▸hb3)),λj hj hj'=>hj.elim (λh=>ok'.gc j h hj') (λe=>e▸.mk hh),
  ⟨λl j h=>?_,ok'.sf.tt,λj h=>?_,ok'.sf.zs,ok'.sf.ze⟩⟩,⟨k3.r,λj hj=>.inl (k3.F j hj),λj hj=>.inl (k3.G j hj),?_,k3.heap,k3.own,k3.ownk,k3.T,k3.Z,k3.n⟩,?_,λl x hm=>?_,(λ_ _ h=>by cases h),λl x hl=>?_⟩
 .rintro j (h|rfl)
  .exact ok'.fb j h
  exact hb1
 .rintro j (h|⟨_,rfl⟩)
  .exact .inl (ok'.gf j h)
  omega
 .rintro j (h|⟨_,rfl⟩)
  .exact ok'.gn j h
  omega
 .obtain⟨h1,h2,h3,h4⟩:=ok'.sf.tb l j h
  grind
 .obtain⟨h1,h2,h3,h4⟩:=ok'.sf.zc j h
  grind
 .rintro j (h|rfl)
  .exact k3.F' j h
  simp_all
 .refine⟨some ⟨b,0,none⟩,c,by rw[hv,hn],hlc,.inr ⟨b,0,rfl,?_,cX (λ_ _=>rfl) (hH g) rfl _ _ hrd⟩⟩
  cases g
  .exact .inr rfl
  exact .inr ⟨rfl,rfl⟩
 .simp at hm;obtain⟨rfl,rfl⟩:=hm
  exact⟨b,c,arr,hr,hh,ha,hlc,hmx,hes,cX (λ_ _=>rfl) (hH g) rfl _ _ hrd,(λh=>by cases h),λ_=>⟨.inr rfl,λhg=>.inr ⟨hg,rfl⟩⟩⟩
 grind
section
variable {P:Program} {N:Nat} {d:Tmp} {tt:TypeId} {ps:String} {af:Array Edge} {gd:Option (Nat×Bool)} {x y:Operand} {sl sl1 sl2:Lab} {ob ob1:Laa} {nx:Nat}
theorem olh {o:Nat} {els:List (Int×List Int)} {A:Option Addr} {e:Int×List Int} [jN P t] (he:els[i]?=some e) (hx:opT sl x= .v (.c (.e o 2 i 1))) (ho:go ob o=some (.cxo o ty nt els (some (i,A,n,k)))) (hN:nlt d N=true):
 NS0 P N ⟨some d,.load t x,tt,ps,af,gd⟩ sl ob nx d (.v (.c (.d false (.k A n k)))) ⟨d,[(x,.v (.c (.e o 2 i 1)))],[(o,.cxo o ty nt els (some (i,A,n,k)))],.v (.c (.d false (.k A n k))),[]⟩:=dT (st:=⟨sl,ob,nx⟩) (LQ he) rfl hN ⟨hx,trivial⟩ ⟨ho,trivial⟩ rfl
theorem olx {o:Nat} {els:List (Int×List Int)} {e:Int×List Int} [jN P t] (he:els[i]?=some e) (hx:opT sl x= .v (.c (.e o 2 i 1))) (ho:go ob o=some (.cxo o ty nt els none)) (hN:nlt d N=true):
 NS0 P N ⟨some d,.load t x,tt,ps,af,gd⟩ sl ob nx d (.v (.c (.r o (.l (e.2.map eI))))) ⟨d,[(x,.v (.c (.e o 2 i 1)))],[(o,.cxo o ty nt els none)],.v (.c (.r o (.l (e.2.map eI)))),[]⟩:=dT (st:=⟨sl,ob,nx⟩) (Rt he rfl) rfl hN ⟨hx,trivial⟩ ⟨ho,trivial⟩ rfl
theorem WP {o:Oper} {needs:List (Operand×T)} {out':T} (h:AWN P o needs nob out nw) (ho:∀E w v,cvT E w out v->cvT E w out' v):AWN P o needs nob out' nw:=by
 intro cx E a w ok hn hb hf
 refine Oper.wp_mono ?_ (h cx E a w ok hn hb hf)
 grind
def nkC:C->C
 | .nil=>.d false (.k none 0 0)
 |c=>c
def nkCs:List C->List C
 |[]=>[]
 |c::cs=>nkC c::nkCs cs
theorem nkC_ok {c:C} (h:cvC E w c u):cvC E w (nkC c) u:=by
 cases c with
 |nil=>have h:u= .slice none 0 0:=h;subst h;rfl
 |_=>exact h
theorem PE {E:Env} {w:World}:∀{cs:List C} {us:Lae},CV E w cs us->CV E w (nkCs cs) us
 |[],[],_=>trivial
 |c::cs,u::us,h=>⟨nkC_ok h.1,PE h.2⟩
 |[],_::_,h=>h.elim
 |_::_,[],h=>h.elim
theorem bdk {zs cs':List C} {pl:Lac} {parts:List (Nat×Operand)} {vs:List V} [TyZ P t zs] [TyB P t pl] (hv:NN sl (parts.map (·.2))=some vs) (h:Eo pl zs ((parts.map (·.1)).zip vs)=some cs) (hk:nkCs cs=cs') (hN:nlt d N=true):
 NS0 P N ⟨some d,.build t parts.toArray,tt,ps,af,gd⟩ sl ob nx d (.v (.agg cs')) ⟨d,(parts.map (·.2)).zip (vs.map T.v),[],.v (.agg cs'),[]⟩:=by
 subst hk
 obtain⟨h1,h2⟩:=DQ hv
 exact dT (st:=⟨sl,ob,nx⟩) (WP (PD (by simp_all) h) (λE w v ⟨arr,hu,hc⟩=>⟨arr,hu,PE hc⟩)) rfl hN h2 trivial rfl
theorem bsx {len:Nat} {parts:List (Nat×Operand)} {vs:List V} (h:NS P N ⟨some d,.buildSlice t len parts.toArray,tt,ps,af,gd⟩ ⟨sl,ob,nx⟩ ⟨(d,.v (.c (.w nx len)))::sl,(nx,.row e sz els g true)::ob,nx'⟩ ⟨d,(parts.map (·.2)).zip (vs.map T.v),[],.v (.c (.w nx len)),[(nx,.row e sz els g true)]⟩) (hn:els.length=len):
 NX P N ⟨some d,.buildSlice t len parts.toArray,tt,ps,af,gd⟩ ⟨sl,ob,nx⟩ ⟨(d,.v (.c (.d g (.l els))))::sl,(nx,.row e sz els g false)::ob,nx'⟩ ⟨⟨d,(parts.map (·.2)).zip (vs.map T.v),[],.v (.c (.d g (.l els))),[(nx,.row e sz els g false)]⟩,[],none⟩:=by
 obtain⟨h1,h2,h3,h4,h5,h6,h7⟩:=h
 exact⟨Tr hn (vU (Em h1)),.inl ⟨rfl,h3⟩,h4,h5,h6,rfl⟩
def ZB (a:Int):List D:=[.i .i64 a,.k none 0 0]
end
def fzC (nw:Laa):C->Option (RC×Lac)
 | .d _ (.i k n)=>some (.d (.i k n),[])
 | .d _ (.b x)=>some (.d (.b x),[])
 | .d _ (.str s)=>some (.d (.str s),[])
 | .d true (.l xs)=>some (.d (.l xs),[])
 | .wn l n=>match go nw l with
  |some (.rown _ _ els true)=>some (.d (.l els),[(els.length,n)])
  |_=>none
 | .w l n=>match go nw l with
  |some (.row _ _ els true true)=>some (.d (.l els),[(els.length,n)])
  |_=>none
 |_=>none
def Ua (nw:Laa):List C->Option (List RC×Lac)
 |[]=>some ([],[])
 |c::cs=>match fzC nw c,Ua nw cs with
  |some (r,e),some (rs,es)=>some (r::rs,e++es)
  |_,_=>none
def fzV (nw:Laa):V->Option (RV×Lac)
 | .c c=>match fzC nw c with
  |some (r,e)=>some (.c r,e)
  |none=>none
 | .agg cs=>match Ua nw cs with
  |some (r,e)=>some (.agg r,e)
  |none=>none
def Nx (nw:Laa):List V->Option (List RV×Lac)
 |[]=>some ([],[])
 |c::cs=>match fzV nw c,Nx nw cs with
  |some (r,e),some (rs,es)=>some (r::rs,e++es)
  |_,_=>none
def fzT (nw:Laa):T->Option (List RV×Lac)
 | .v v=>match fzV nw v with
  |some (r,e)=>some ([r],e)
  |none=>none
 | .tup (a::b::vs)=>Nx nw (a::b::vs)
 |_=>none
section
variable {nw:Laa} {E:Env} {w:World} {G:Nat->Prop} {base:Nat} (hG:∀b,E.G b->G b) (hN:∀l y,go nw l=some y->dm E w l y) (hb:∀l y b c,go nw l=some y->E.r l=some (b,c)->jL w b->G b)
include hG hN hb
theorem T9 {c:C} {r:RC} {e:Lac} (h:fzC nw c=some (r,e)) (he:Eqs e) (hc:cvC E w c u):rcR w G base r u []:=by
 cases c with
 |d g x=>
  cases x with
  |i k n=>simp[fzC] at h;obtain⟨rfl,rfl⟩:=h;exact⟨rfl,by simpa [cvC,rdD] using hc⟩
  |b n=>simp[fzC] at h;obtain⟨rfl,rfl⟩:=h;exact⟨rfl,by simpa [cvC,rdD] using hc⟩
  |str n=>simp[fzC] at h;obtain⟨rfl,rfl⟩:=h;exact⟨rfl,by simpa [cvC,rdD] using hc⟩
  |k A n c'=>simp[fzC] at h
  |l xs=>
   cases g with
   |false=>simp[fzC] at h
   |true=>simp[fzC] at h;obtain⟨rfl,rfl⟩:=h;exact⟨rfl,cW (λ_ _=>rfl) hG _ _ hc⟩
 |wn l n=>
  simp only[fzC] at h
  split at h
  .rename_i ty sz els hg
   simp at h;obtain⟨rfl,rfl⟩:=h
   have hn:els.length=n:=he.1
   rcases hc with⟨h0,h1,h2⟩|⟨h0,b,c,h1,h2⟩
   .subst h2;subst hn
    have:els=[]:=aaL h1
    subst this
    exact⟨rfl,none,0,rfl,aah _,.inl rfl⟩
   rcases hN l _ hg with⟨k0,_⟩|⟨_,b',c',arr,k1,k2,k3,k4,k5,k6,k7,k8⟩
   .exact absurd k0 h0
   rw[h1] at k1;cases k1
   exact⟨rfl,some ⟨b,0,none⟩,c,by rw[hn];exact h2,k4,.inr ⟨b,0,rfl,hb l _ b c hg h1 (.mk k2),cX (λ_ _=>rfl) hG rfl _ _ k7⟩⟩
  cases h
 |w l n=>
  simp only[fzC] at h
  split at h
  .rename_i ty sz els hg
   simp at h;obtain⟨rfl,rfl⟩:=h
   have hn:els.length=n:=he.1
   obtain⟨b,c,h1,h2⟩:=hc
   obtain⟨b',c',arr,k1,k2,k3,k4,k5,k6,k7,k8,_⟩:=hN l _ hg
   rw[h1] at k1;cases k1
   exact⟨rfl,some ⟨b,0,none⟩,c,by rw[hn];exact h2,k4,.inr ⟨b,0,rfl,hb l _ b c hg h1 (.mk k2),cX (λ_ _=>rfl) hG rfl _ _ k7⟩⟩
  cases h
 |_=>simp[fzC] at h
theorem O7:∀{cs:List C} {rs:List RC} {e:Lac} {us:Lae},Ua nw cs=some (rs,e)->Eqs e->CV E w cs us->G4 w G base rs us []
 |[],rs,e,us,h,he,hc=>by
  simp[Ua] at h;obtain⟨rfl,rfl⟩:=h
  cases us with
  |nil=>rfl
  |cons _ _=>exact hc.elim
 |c::cs,rs,e,us,h,he,hc=>by
  simp only[Ua] at h
  split at h
  .rename_i r e1 rs' e2 h1 h2
   simp at h;obtain⟨rfl,rfl⟩:=h
   obtain⟨g1,g2⟩:=eY he
   cases us with
   |nil=>exact hc.elim
   |cons u us=>exact⟨[],[],rfl,T9 hG hN hb h1 g1 hc.1,O7 h2 g2 hc.2⟩
  cases h
theorem Uf {v:V} {r:RV} {e:Lac} (h:fzV nw v=some (r,e)) (he:Eqs e) (hc:cvV E w v u):rvR w G base r u []:=by
 cases v with
 |c c=>
  simp only[fzV] at h
  split at h
  .rename_i r' e' h1;simp at h;obtain⟨rfl,rfl⟩:=h;exact T9 hG hN hb h1 he hc
  cases h
 |agg cs=>
  simp only[fzV] at h
  split at h
  .rename_i r' e' h1;simp at h;obtain⟨rfl,rfl⟩:=h
   obtain⟨arr,hu,hc⟩:=hc
   exact⟨arr,hu,O7 hG hN hb h1 he hc⟩
  cases h
theorem Pa:∀{cs:List V} {rs:List RV} {e:Lac} {us:Lae},Nx nw cs=some (rs,e)->Eqs e->VV E w cs us->DA w G base rs us []
 |[],rs,e,us,h,he,hc=>by
  simp[Nx] at h;obtain⟨rfl,rfl⟩:=h
  cases us with
  |nil=>rfl
  |cons _ _=>exact hc.elim
 |c::cs,rs,e,us,h,he,hc=>by
  simp only[Nx] at h
  split at h
  .rename_i r e1 rs' e2 h1 h2
   simp at h;obtain⟨rfl,rfl⟩:=h
   obtain⟨g1,g2⟩:=eY he
   cases us with
   |nil=>exact hc.elim
   |cons u us=>exact⟨[],[],rfl,Uf hG hN hb h1 g1 hc.1,Pa h2 g2 hc.2⟩
  cases h
theorem ZI {t:T} {rs:List RV} {e:Lac} (h:fzT nw t=some (rs,e)) (he:Eqs e) (hc:cvT E w t u):An w G base rs u []:=by
 cases t with
 |v v=>
  simp only[fzT] at h
  split at h
  .rename_i r' e' h1;simp at h;obtain⟨rfl,rfl⟩:=h;exact Uf hG hN hb h1 he hc
  cases h
 |any=>cases h
 |tup ts=>
  match ts,h,hc with
  |[],h,_=>cases h
  |[_],h,_=>cases h
  |a::b::vs,h,hc=>
   obtain⟨arr,hu,hc⟩:=hc
   have h:Nx nw (a::b::vs)=some (rs,e):=h
   have key:=Pa hG hN hb (base:=base) h he hc
   have hlen:∃x y zs,rs=x::y::zs:=by
    simp only[Nx] at h
    split at h
    .rename_i r e1 rs' e2 h1 h2
     split at h2
     .rename_i r' e1' rs'' e2' h1' h2'
      simp at h2 h;obtain⟨rfl,rfl⟩:=h2;obtain⟨rfl,rfl⟩:=h;exact⟨_,_,_,rfl⟩
     cases h2
    cases h
   obtain⟨x,y,zs,rfl⟩:=hlen
   exact⟨arr,hu,key⟩
end
def PJ:Laa->Bool
 |[]=>true
 |(l,_)::r=>!rsv l&&PJ r
theorem LT {l:Nat} {y:Ob}:∀{nw:Laa},PJ nw=true->go nw l=some y->rsv l=false
 |[],_,h=>by cases h
 |(k,z)::r,h0,h=>by
  simp only[PJ,hV,aax] at h0
  by_cases e:k=l
  .subst e;exact h0.1
  rw[b7 _ _ e] at h;exact LT h0.2 h
theorem FnV.frzW {t':TypeId} {cs':List C} {args:List T} {e:Lac} (h:FnV P f [(200,.var t cs)] args [(200,.var t' cs')] out nw) (hf:cs'.all C.free=true) (hz:fzT nw out=some (res,e)) (he:Eqs e) (hn:PJ nw=true):
 FnW P f (.var t cs) args (.var t' cs') res:=by
 refine⟨h.enters,λF w vals b c hF hb hT hs hx hA=>?_⟩
 have hbF:¬F b:=by
  obtain⟨b',c',arr,k1,k2,k3,k4⟩:=hx
  simp[E0] at k1;obtain⟨rfl,rfl⟩:=k1
  exact k4
 have hr0:∀o p,(E0 b c F).r o=some p↔o=200/\p=(b,c):=λo p=>by
  show(if o=200 then some (b,c) else none)=some p↔_
  split
  .rename_i h;simp[h,eq_comm]
  rename_i h;simp[h]
 have hI:VIn (E0 b c F) w:=⟨hF,λ_ h=>h.elim,λo b' c' h=>by
  obtain⟨rfl,e⟩:=(hr0 _ _).1 h;cases e;exact⟨hb,rfl,hbF⟩,λo o' b' c1 c2 h h'=>by rw[((hr0 _ _).1 h).1,((hr0 _ _).1 h').1],λ_ _ h=>h,λ_ h=>h⟩
 refine(h.calls (E0 b c F) w vals hI hT (λk hk o c' h=>by obtain⟨_,e⟩:=(hr0 _ _).1 h;cases e;exact hs b hk rfl) (λl x h=>?_) hA).mono ?_
 .by_cases el:200=l
  .subst el;rw[cU] at h;cases h;exact hx
  rw[b7 _ _ el] at h;cases h
 rintro en w' ⟨v,E',hen,vo,hv,hys,hnw⟩
 refine⟨v,λk=>(E'.F k/\w.heap.size<=k)\/(w.heap.size<=k/\k<w'.heap.size/\jL w' k/\∃l y c,go nw l=some y/\E'.r l=some (k,c)),[],hen,⟨vo.past.os,vo.past.tape,vo.past.output,vo.past.size,λk hk hW=>vo.past.block k hk (λ⟨o,c',ho⟩=>hW (by obtain⟨_,e⟩:=(hr0 _ _).1 ho;cases e;rfl))⟩,λk hk=>?_,?_,by simp,?_⟩
 .rcases hk with⟨h1,h2⟩|⟨h1,h2,h3,_⟩
  .refine⟨h2,vo.fb k h1,?_⟩
   rcases vo.f0 k h1 with h|h
   .have:=hF k h;omega
   exact h.2
  exact⟨h1,h2,h3⟩
 .refine ZI (λk hk=>.inl ⟨vo.gf k hk,(vo.g0 k hk).resolve_right (λh=>h.elim)⟩) hnw (λl y k c' hg hr hp=>?_) hz he hv
  obtain⟨q1,q2⟩:=vo.rb l k c' hr
  exact .inr ⟨q2.resolve_right (λq=>by rw[LT hn hg] at q;cases q.2),q1,hp,l,y,c',hg,hr⟩
 obtain⟨b',c',arr,k1,k2,k3,k4⟩:=hys 200 _ (cU _ _ _)
 have hp:=vo.pin 200 _ rfl k1
 obtain⟨_,ep⟩:=(hr0 _ _).1 hp;cases ep
 refine⟨b,c,arr,by simp[E1],k2,IC (E:=E') (λg k hk=>?_) (λ_ _ _=>rfl) hf k3,?_⟩
 .have hFk:∀k,E'.F k->F k\/(E'.F k/\w.heap.size<=k):=λk hk=>(vo.f0 k hk).imp id (λh=>⟨hk,h.1⟩)
  cases g with
  |false=>
   show F k\/_
   rcases hFk k hk with h|h
   .exact .inl h
   exact .inr (.inl h)
  |true=>
   exact .inl ⟨vo.gf k hk,(vo.g0 k hk).resolve_right (λh=>h.elim)⟩
 rintro(h1|⟨h1,h2⟩|⟨h1,_⟩)
 .exact hbF h1
 .omega
 omega
def upC:C->C
 | .d false (.l xs)=>.d true (.l xs)
 |c=>c
def upCs:List C->List C
 |[]=>[]
 |c::cs=>upC c::upCs cs
def upV:V->V
 | .c c=>.c (upC c)
 | .agg cs=>.agg (upCs cs)
def upVs:List V->List V
 |[]=>[]
 |c::cs=>upV c::upVs cs
def upT:T->T
 | .v v=>.v (upV v)
 | .tup vs=>.tup (upVs vs)
 | .any=>.any
section
variable {E E':Env} {w:World} (hr:∀o p,E.r o=some p->E'.r o=some p) (hn:∀o,E'.n o↔E.n o) (hF:∀b,E.F b->E'.F b) (hG:∀b,E.G b->E'.G b) (hFG:∀b,E.F b->E'.G b) (hT:E'.T=E.T) (hZ:E'.Z=E.Z)
include hr hn hF hG hFG hT hZ
theorem Wd {c:C} (h:cvC E w c u):cvC E' w (upC c) u:=by
 have kp:lf E w E' w\/True:=.inr trivial
 cases c with
 |d g x=>
  cases g with
  |false=>
   cases x with
   |l xs=>exact cW (λ_ _=>rfl) hFG _ _ h
   |i k n=>exact cW (λ_ _=>rfl) hF _ _ h
   |b n=>exact cW (λ_ _=>rfl) hF _ _ h
   |str n=>exact cW (λ_ _=>rfl) hF _ _ h
   |k A n c=>exact cW (λ_ _=>rfl) hF _ _ h
  |true=>exact cW (λ_ _=>rfl) hG _ _ h
 |w o n=>obtain⟨b,c,h1,h2⟩:=h;exact⟨b,c,hr _ _ h1,h2⟩
 |s o sz off len=>obtain⟨A,c,b,k,h1,h2⟩:=h;exact⟨A,c,b,k,hr _ _ h1,h2⟩
 |p o k=>obtain⟨b,c,h1,h2⟩:=h;exact⟨b,c,hr _ _ h1,h2⟩
 |e o sz i j=>obtain⟨b,c,h1,h2⟩:=h;exact⟨b,c,hr _ _ h1,h2⟩
 |q g y j=>
  obtain⟨b,k,h1,h2,h3⟩:=h
  cases g with
  |false=>exact⟨b,k,h1,hF b h2,rdL_mono (λ_ _=>rfl) hF _ _ _ h2 h3⟩
  |true=>exact⟨b,k,h1,hG b h2,rdL_mono (λ_ _=>rfl) hG _ _ _ h2 h3⟩
 |fn f=>exact h
 |nil=>exact h
 |any=>trivial
 |r l x=>exact cW (λ_ _=>rfl) (λb hb=>by rw[hT];exact hb) _ _ h
 |z x=>exact vy (λ_ _=>sv.refl _ _) (λb hb=>by rw[hZ];exact hb) _ _ h
 |zq y j=>obtain⟨b,k,h1,h2,h3⟩:=h;exact⟨b,k,h1,by rw[hZ];exact h2,rsL_mono (λ_ _=>sv.refl _ _) (λb hb=>by rw[hZ];exact hb) _ _ _ h2 h3⟩
 |wn o n=>
  rcases h with⟨h1,h2⟩|⟨h1,b,c,h2,h3⟩
  .exact .inl ⟨(hn o).2 h1,h2⟩
  exact .inr ⟨λk=>h1 ((hn o).1 k),b,c,hr _ _ h2,h3⟩
theorem Qu:∀{cs:List C} {us:Lae},CV E w cs us->CV E' w (upCs cs) us
 |[],[],_=>trivial
 |c::cs,u::us,h=>⟨Wd hr hn hF hG hFG hT hZ h.1,Qu h.2⟩
 |[],_::_,h=>h.elim
 |_::_,[],h=>h.elim
theorem We {v:V} (h:cvV E w v u):cvV E' w (upV v) u:=by
 cases v with
 |c c=>exact Wd hr hn hF hG hFG hT hZ h
 |agg cs=>obtain⟨arr,hu,h⟩:=h;exact⟨arr,hu,Qu hr hn hF hG hFG hT hZ h⟩
theorem Qv:∀{cs:List V} {us:Lae},VV E w cs us->VV E' w (upVs cs) us
 |[],[],_=>trivial
 |c::cs,u::us,h=>⟨We hr hn hF hG hFG hT hZ h.1,Qv h.2⟩
 |[],_::_,h=>h.elim
 |_::_,[],h=>h.elim
theorem upT_ok {t:T} (h:cvT E w t u):cvT E' w (upT t) u:=by
 cases t with
 |v v=>exact We hr hn hF hG hFG hT hZ h
 |tup vs=>obtain⟨arr,hu,h⟩:=h;exact⟨arr,hu,Qv hr hn hF hG hFG hT hZ h⟩
 |any=>trivial
end
def dnC:C->Option C
 | .d true (.l xs)=>some (.d false (.l xs))
 | .d g (.i k n)=>some (.d g (.i k n))
 | .d g (.b x)=>some (.d g (.b x))
 | .d g (.str s)=>some (.d g (.str s))
 | .nil=>some .nil
 | .fn f=>some (.fn f)
 |_=>none
theorem Zz {E':Env} (hG:∀b,E.G b->E'.F b) {c c':C} (h:dnC c=some c') (hc:cvC E w c u):cvC E' w c' u:=by
 cases c with
 |d g x=>
  cases x with
  |l xs=>
   cases g with
   |false=>cases h
   |true=>cases h;exact cW (λ_ _=>rfl) hG _ _ hc
  |i k n=>cases g<;>(cases h;simpa [cvC,rdD] using hc)
  |b n=>cases g<;>(cases h;simpa [cvC,rdD] using hc)
  |str n=>cases g<;>(cases h;simpa [cvC,rdD] using hc)
  |k A n c=>cases g<;>cases h
 |nil=>cases h;exact hc
 |fn f=>cases h;exact hc
 |_=>simp[dnC] at h
theorem SZ {f:C->Option C} {E E':Env} {w w':World} (hf:∀c c' u,f c=some c'->cvC E w c u->cvC E' w' c' u):∀{ts ts':List T} {us:Lae},xg f ts=some ts'->TV E w ts us->TV E' w' ts' us
 |[],ts',us,h,hv=>by
  simp[xg] at h;subst h
  cases us with
  |nil=>trivial
  |cons _ _=>exact hv.elim
 |t::ts,ts',us,h,hv=>by
  simp only[xg] at h
  split at h
  .rename_i h1 h2
   simp at h;subst h
   cases us with
   |nil=>exact hv.elim
   |cons u us=>exact⟨Bp hf h1 hv.1,SZ hf h2 hv.2⟩
  cases h
theorem FnV.up {args args':List T} {out':T} (h:FnV P f [] args [] out nw) (ha:xg dnC args'=some args) (ho:upT out=out'):FnV P f [] args' [] out' nw:=by
 subst ho
 refine⟨h.enters,λE w vals hI ht hs hx hA=>?_⟩
 obtain⟨E0,hE0⟩:∃E0:Env,E0={E with F:=E.G}:=⟨_,rfl⟩
 have e_r:E0.r=E.r:=by subst hE0;rfl
 have e_F:E0.F=E.G:=by subst hE0;rfl
 have e_G:E0.G=E.G:=by subst hE0;rfl
 have e_T:E0.T=E.T:=by subst hE0;rfl
 have e_Z:E0.Z=E.Z:=by subst hE0;rfl
 have hI0:VIn E0 w:=⟨λb hb=>hI.fb b (hI.gf b (by rw[e_F] at hb;exact hb)),λb hb=>by rw[e_G] at hb;rw[e_F];exact hb,λo b c hr=>by
  rw[e_r] at hr
  obtain⟨k1,k2,k3⟩:=hI.rb o b c hr
  exact⟨k1,k2,by rw[e_F];exact λhg=>k3 (hI.gf b hg)⟩,by rw[e_r];exact hI.inj,by rw[e_T];exact hI.T,by rw[e_Z];exact hI.Z⟩
 refine(h.calls E0 w vals hI0 ht (by rw[e_r];exact hs) (λl x hg=>by cases hg) (SZ (λc c' u hc hv=>Zz (λb hb=>by rw[e_F];exact hb) hc hv) ha hA)).mono ?_
 rintro e w' ⟨v,E',he,vo,hv,_,hnw⟩
 have f0:∀b,E'.F b->E.G b\/(w.heap.size<=b/\jL w' b):=λb hb=>by have:=vo.f0 b hb;rwa [e_F] at this
 have hr0:∀o b c,E'.r o=some (b,c)->b<w'.heap.size/\(w.heap.size<=b\/((∃o' c',E.r o'=some (b,c'))/\rsv o=true)):=λo b c hr=>by have:=vo.rb o b c hr;rwa [e_r] at this
 refine⟨v,{E' with F:=λb=>E'.F b\/E.F b,G:=E'.F},he,⟨by have:=vo.past;rwa [e_r] at this,λb hb=>hb.elim (vo.fb b) (λhb=>aau (hI.fb b hb) vo.past.size),λb hb=>hb.elim (λhb=>(f0 b hb).imp (hI.gf b) id) .inl,λb hb=>.inr hb,λb hb=>vo.F b (by rw[e_F];exact hb),λb hb=>.inl hb,λb hb=>(f0 b hb).elim .inr (λk=>.inl k.1),hr0,vo.inj,λo x ho hx'=>by have:=vo.pin o x ho hx';rwa [e_r] at this⟩,
  upT_ok (E:=E') (E':={E' with F:=λb=>E'.F b\/E.F b,G:=E'.F}) (λ_ _ h=>h) (λ_=>Iff.rfl) (λb hb=>.inl hb) (λb hb=>vo.gf b hb) (λb hb=>hb) rfl rfl hv,λl y hg=>(by cases hg),λl y hg=>?_⟩
 have hk:lf E' w' {E' with F:=λb=>E'.F b\/E.F b,G:=E'.F} w':=⟨λ_ _ h=>h,λg b hb=>by cases g;exact .inl hb;exact vo.gf b hb,λ_ _ _=>rfl,λ_ _ h=>⟨h,rfl⟩,λ_ h=>⟨h,.refl _ _⟩,rfl⟩
 refine gU hk (λ_ _ _=>rfl) (λb c hr hn hF=>hF.elim hn (λhb=>?_)) (hnw l y hg)
 rcases(hr0 l b c hr).2 with k|⟨⟨o',c',k⟩,_⟩
 .have:=hI.fb b hb;omega
 exact(hI.rb o' b c' k).2.2 hb
section
variable {P:Program} {d:Tmp} {ty:TypeId} {ps:String} {af:Array Edge} {gd:Option (Nat×Bool)} {x y:Operand}
theorem G1 {t:Nat} {g2:Bool} {o:Nat} {rt:TypeId} {hi:Operand} [ht:eB P t e sz by_] (hn:els.length=n) (h0:0<=h) (h2:h<=n):
 AWN P ⟨some d,.slice t x none (some hi) none,ty,ps,af,gd⟩ [(x,.v (.c (.w o n))),(hi,.v (.c (.d g2 (.i .i64 h))))] [(o,.row rt sz els g m)] (.v (.c (.w o h.toNat))) []:=
 cM λE ac w hne hob=>by
  have k1:=hne x _ (.head _)
  have k3:=iY (hne hi _ (.tail _ (.head _)))
  obtain⟨b,c,hr,hu⟩:=k1
  obtain⟨b',c',arr,hr',_,_,hlc,_⟩:=hob o _ (.head _)
  rw[hr] at hr';cases hr'
  obtain⟨i,z,hi1,hi2,_⟩:=ht.i
  obtain⟨he,hu'⟩:=AZ ht.u
  refine⟨sliced (some ⟨b,0,none⟩) 0 h.toNat c sz,?_,?_⟩
  .simp[execOp,hu,k3,run_sliceAt_slice w t _ _ _ _ hu',run_slice_h w t (some ⟨b,0,none⟩) n c hu' .i64 h h0 oaa,he,fm hi1,hi2]
  exact⟨b,c,hr,by simp[sliced,vS]⟩
theorem Jx {o:Nat} {ys:Lad} {c:C} [ht:eB P t e sz by_] (hrv:rsv o=false)
 (ho:go nob o=some (.row e sz els g true)) (hs:Src nob c ys gy) (hn:n<=els.length) (hsz:∀e∈ys,e.length=sz) (hb:(n+ys.length)*by_<=140737488355328) (h63:n+ys.length<=9223372036854775807):
 AWK P ⟨some d,.call ⟨.builtin .append,#[x,y],#[t,t]⟩,ty,ps,af,gd⟩ [(x,.v (.c (.w o n))),(y,.v (.c c))] nob (.v (.c (.w q (n+ys.length)))) [(q,.row e sz (els.take n++ys) (g&&gy) true)] [] (some o):=by
 intro cx E a w ok hne hnob hfr
 have hob:∀l x,go nob l=some x->dm E w l x:=λl x h=>hnob l x (Aa h)
 obtain⟨hq1,hq2⟩:=hfr q _ (.head _)
 have h1:cvT E w (.v (.c (.w o n))) (a.eval x):=hne x _ (.head _)
 have h2:cvT E w (.v (.c c)) (a.eval y):=hne y _ (.tail _ (.head _))
 obtain⟨b,cc,hr,hu⟩:=h1
 obtain⟨b',c',arr,hr',hh,ha,hlc,hmx,hes,hrd,hFm,_⟩:=hob o _ ho
 rw[hr] at hr';cases hr'
 have hF:=hFm rfl
 have hesT:∀e'∈els.take n,e'.length=sz:=λe' he'=>hes e' (aaA he')
 have hrdT:=pS n hrd
 have hnT:(els.take n).length=n:=by simp;omega
 have hoq:o≠q:=λe=>by rw[e,hq1] at hr;cases hr
 obtain⟨A,k,hv,hyk,hA⟩:=D3 hob hs h2
 obtain⟨ii,zz,i1,i2,i3,i4,i5⟩:=ht.i
 have hbl:=(ok.rb o b cc hr)
 have hown:w.ownsRow 0 e sz (.slice (some ⟨b,0,none⟩) n cc) n (arr.toList.take (n*sz)):=
  ⟨by simp[ha];rw[aaF oaa],.inr ⟨b,cc,arr,rfl,aas _,hh,by omega,hmx,ha,rfl⟩⟩
 have hsrc:∃news:Lae,news.length=ys.length*sz/\(∀u∈news,u.oneCell'=true)/\(∀(j:Nat) (xd:D),ys.flatten[j]?=some xd->∃u,news[j]?=some u/\rdD w (E.H gy) xd u)/\
  ∃v' w',(Builtin.append_ #[t,t] ty #[.slice (some ⟨b,0,none⟩) n cc,.slice A ys.length k]).run P w= .ok v' w'/\w'.ownsRow 0 e sz v' (n+ys.length) (arr.toList.take (n*sz)++news)/\w.grownBy w' (some b)/\v'≠.slice none 0 0/\(v'.ownBlock=some b\/v'.ownBlock=some w.heap.size):=by
  have hgood:∀ad,A=some ad->∀news:Lae,news.length=ys.length*sz->(∀(j:Nat) (u:Value),news[j]?=some u->w.cell? (ad.add j)=some u)->(∀u∈news,u.oneCell'=true)->
   ∃v' w',(Builtin.append_ #[t,t] ty #[.slice (some ⟨b,0,none⟩) n cc,.slice A ys.length k]).run P w= .ok v' w'/\w'.ownsRow 0 e sz v' (n+ys.length) (arr.toList.take (n*sz)++news)/\w.grownBy w' (some b)/\v'≠.slice none 0 0/\(v'.ownBlock=some b\/v'.ownBlock=some w.heap.size):=by
   intro ad hAd news n1 n2 n3
   obtain⟨v',w',r1,r2,r3,r4,r5⟩:=run_append_own_at (P:=P) w 0 t ty e ii zz sz by_ ht.u i1 i4 i2 i3 i5 ht.p _ n _ hown ad ys.length k news n1 n2 n3 (by unfold maxLen;omega) hb (aas _)
   exact⟨v',w',by rw[hAd];exact r1,r2,r3,(λh=>by have h9:=(r4.1 h).1;simp at h9),r5⟩
  rcases hA with h0|⟨b2,off,rfl,hrd2⟩
  .subst h0
   refine⟨[],by simp,by simp,by simp,?_⟩
   cases A with
   |none=>exact⟨_,w,s6 w ht.u i1 hown k,by simpa using hown,⟨rfl,rfl,rfl,aah _,λ_ _ _=>rfl⟩,by simp,.inl rfl⟩
   |some ad=>exact hgood ad rfl [] (by simp) (by simp) (by simp)
  obtain⟨us,q1,q2,q3,q4⟩:=vw (fF.1 hrd2)
  exact⟨us,by rw[q1,gO hsz],q3,q4,hgood _ rfl us (by rw[q1,gO hsz]) q2 q3⟩
 obtain⟨news,n1,n2,n3,v',w',r1,r2,r3,r4,r5⟩:=hsrc
 obtain⟨_,r2⟩:=r2
 rcases r2 with⟨rfl,_⟩|⟨bn,cap,cur,rfl,_,hhn,hcap,hcapm,hcur,htk⟩
 .exact absurd rfl r4
 unfold Oper.wp
 simp only[execOp,resolve,invoke,builtin,Sem.run_bind,Sem.run_pure,Result.andThen_ok,abn,aaB,abd,hu,hv,r1,Oper.upon_value]
 have hbn:bn=b\/bn=w.heap.size:=by simpa [Value.ownBlock] using r5
 have hsame:∀k,k<w.heap.size->k≠b->w'.heap[k]?=w.heap[k]?:=λk hk hne=>r3.block k hk (λe=>hne (by injection e))
 have hnF:¬E.F bn:=by
  rcases hbn with rfl|rfl
  .exact hF
  exact λh=>by have:=ok.fb _ h;omega
 have hbig:bn<w'.heap.size:=by
  rcases aao bn w'.heap.size with h|h
  .exact h
  rw[aaw h] at hhn;cases hhn
 have hnew:∀l bl cl,l≠o->E.r l=some (bl,cl)->bl≠bn:=by
  intro l bl cl hne hl e
  subst e
  rcases hbn with h|h
  .subst h;exact hne (ok.inj l o _ _ _ hl hr)
  have:=(ok.rb l bl cl hl).1;omega
 have hHb:∀g k,E.H g k->k≠b/\k<w.heap.size:=λg k hk=>⟨λe=>by subst e;cases g;exact hF hk;exact hF (ok.gf _ hk),ok.hb hk⟩
 have kH:∀(g:Bool) (k:Nat),E.H g k->w'.heap[k]?=w.heap[k]?:=λg k hk=>hsame k (hHb g k hk).2 (hHb g k hk).1
 have kI:∀(g:Bool) (k:Nat),E.H g k->(E.mv o q bn cap).H g k:=λ_ _ h=>h
 have hbnew:cx.w0.heap.size<=b:=by
  rcases hbl.2 with h|h
  .exact h
  rw[hrv] at h;cases h.2
 have hmv:∀l bl cl,(E.mv o q bn cap).r l=some (bl,cl)->(l=q/\bl=bn/\cl=cap)\/(l≠q/\l≠o/\E.r l=some (bl,cl)):=by
  intro l bl cl hl
  simp only[Env.mv] at hl
  split at hl
  .cases hl;exact .inl ⟨by assumption,rfl,rfl⟩
  split at hl
  .cases hl
  exact .inr ⟨by assumption,by assumption,hl⟩
 refine⟨_,E.mv o q bn cap,rfl,⟨λk hk=>aau (ok.fb k hk) r3.size,ok.gf,ok.gn,λl bl cl hl=>?_,λl l' bl cl cl' hl hl'=>?_,by rw[r3.os];exact ok.os,by rw[r3.tape];exact ok.tape,by rw[r3.output];exact ok.output,Nat.le_trans ok.size r3.size,λk hk hW=>?_,λl xx hv hl=>?_,ok.ff,λk hk hk'=>(ok.gc k hk hk').of_eq (hsame k (hHb false k hk).2 (hHb false k hk).1),ok.sf.turn hr rfl rfl (λ_ h=>.inl h) (λl bl cl hl=>?_) r3.size hsame⟩,
  ⟨λl xx hl hlr=>?_,λ_ h=>h,λ_ h=>h,λ_ h=>.inl h,λk hk _ hkl=>hsame k hk (λe=>hkl o cc rfl (e▸hr)),(λ_ _ _ _ h=>by cases h),λl bl cl hl hlr=>?_,rfl,rfl,rfl⟩,⟨bn,cap,by simp[Env.mv],rfl⟩,λl ob hm=>?_,(λ_ _ h=>by cases h),λl xx hl=>?_⟩
 .rcases hmv l bl cl hl with⟨_,rfl,rfl⟩|⟨_,_,hl⟩
  .refine⟨hbig,.inl ?_⟩
   rcases hbn with h|h
   .rw[h];exact hbnew
   rw[h];exact ok.size
  have:=ok.rb l bl cl hl;exact⟨aau this.1 r3.size,this.2⟩
 .rcases hmv l bl cl hl with⟨h1,h2,h3⟩|⟨h1,h2,h3⟩<;>rcases hmv l' bl cl' hl' with⟨k1,k2,k3⟩|⟨k1,k2,k3⟩
  .omega
  .exact absurd h2 (hnew l' _ _ k2 k3)
  .exact absurd k2 (hnew l _ _ h2 h3)
  exact ok.inj l l' bl cl cl' h3 k3
 .rw[hsame k (by have:=ok.size;omega) oaa];exact ok.block k hk hW
 .obtain⟨bl,cl⟩:=xx
  rcases hmv l bl cl hl with⟨rfl,_⟩|⟨_,_,hl⟩
  .rw[rJ hq2] at hv;cases hv
  exact ok.pin l _ hv hl
 .rcases hmv l bl cl hl with⟨_,rfl,_⟩|⟨_,_,hl⟩
  .rcases hbn with h|h
   .left;exact⟨o,_,h▸hr⟩
   right;omega
  exact .inl ⟨l,cl,hl⟩
 .simp only[Env.mv]
  rw[if_neg (λe=>by rw[e,hq1] at hlr;cases hlr),if_neg (λe=>hl (by rw[e]))]
  exact hlr
 .cases hl
  rw[hr] at hlr;cases hlr;exact hF
 .simp at hm;obtain⟨rfl,rfl⟩:=hm
  have hall:∀e'∈els.take n++ys,e'.length=sz:=λe' he'=>by
   rcases aac.1 he' with h|h
   .exact hesT e' h
   exact hsz e' h
  refine⟨bn,cap,cur,by simp[Env.mv],hhn,hcur,by simp;omega,hcapm,hall,?_,λ_=>hnF,λh=>by cases h⟩
  rw[fF]
  refine oT λj xd hj=>?_
  rw[aaj,fa hhn]
  rw[abe] at hj
  have hfl:(els.take n).flatten.length=n*sz:=by rw[gO hesT,hnT]
  have hxs:(arr.toList.take (n*sz)).length=n*sz:=by simp[ha];rw[aaF oaa]
  have hcurj:∀u,(arr.toList.take (n*sz)++news)[j]?=some u->cur[j]?=some u:=by
   intro u hu
   rw[<-htk,aat] at hu
   split at hu
   .simpa using hu
   cases hu
  by_cases hjn:j<n*sz
  .rw[aal oaa] at hj
   obtain⟨u,u1,u2⟩:=nO (fF.1 hrdT) hj
   rw[aaj,fa hh] at u1
   refine⟨u,hcurj u ?_,cW (kH _) (kI _) _ _ (pF ok u2 (by simp;intro a _;exact a))⟩
   rw[aal oaa,aat,if_pos hjn]
   simpa using u1
  rw[aan oaa,hfl] at hj
  obtain⟨u,u1,u2⟩:=n3 _ _ hj
  refine⟨u,hcurj u ?_,cW (kH _) (kI _) _ _ (pF ok u2 (by simp))⟩
  rw[aan oaa,hxs]
  exact u1
 obtain⟨bl,cl⟩:=xx
 rcases hmv l bl cl hl with⟨rfl,_⟩|⟨_,_,hl⟩
 .exact .inr ⟨_,.head _⟩
 exact .inl hl
end
section
variable {P:Program} {N:Nat} {d:Tmp} {ty:TypeId} {ps:String} {af:Array Edge} {gd:Option (Nat×Bool)} {x y:Operand} {sl:Lab} {ob:Laa} {nx:Nat} {α:Type} {enc:α->List D}
theorem cwfT {t:Nat} {g2:Bool} {o:Nat} {ys:List α} {rt:TypeId} {hi:Operand} [ht:eB P t e sz by_] (H:eS ys 0 h=true) (hn:ys.length=n) (hx:opT sl x= .v (.c (.w o n))) (ho:go ob o=some (.row rt sz (ys.map enc) g m)) (hh:opT sl hi= .v (.c (.d g2 (.i .i64 h)))) (hN:nlt d N=true):
 NS0 P N ⟨some d,.slice t x none (some hi) none,ty,ps,af,gd⟩ sl ob nx d (.v (.c (.w o h.toNat))) ⟨d,[(x,.v (.c (.w o n))),(hi,.v (.c (.d g2 (.i .i64 h))))],[(o,.row rt sz (ys.map enc) g m)],.v (.c (.w o h.toNat)),[]⟩:=by
 simp only[eS,decide_eq_true_eq] at H
 exact dT (st:=⟨sl,ob,nx⟩) (G1 (by simpa using hn) H.2.1 oaa) rfl hN ⟨hx,hh,trivial⟩ ⟨ho,trivial⟩ rfl
theorem apxP {o:Nat} {ys zs:List α} {gg:Bool} {c:C} (ls:List Nat) [eB P t e sz by_] (H0:eS ys 0 h=true) (H:da by_ (ys.take h.toNat++zs).length=true) (hzd:zs.map enc=zd) (henc:∀a,(enc a).length=sz)
 (hp:vl ob ls=some nob) (hs:Src nob c zd gy) (hd:nlt d N=true) (hx:opT sl x= .v (.c (.w o h.toNat))) (hy:opT sl y= .v (.c c)) (ho:go nob o=some (.row e sz (ys.map enc) g true)) (hg:(g&&gy)=gg) (hrv:rsv o=false) (hnx:nxt nx=some nx'):
 NX P N ⟨some d,.call ⟨.builtin .append,#[x,y],#[t,t]⟩,ty,ps,af,gd⟩ ⟨sl,ob,nx⟩ ⟨(d,.v (.c (.w nx (ys.take h.toNat++zs).length)))::sl,(nx,.row e sz ((ys.take h.toNat++zs).map enc) gg true)::ob,nx'⟩
  ⟨⟨d,[(x,.v (.c (.w o h.toNat))),(y,.v (.c c))],nob,.v (.c (.w nx (ys.take h.toNat++zs).length)),[(nx,.row e sz ((ys.take h.toNat++zs).map enc) gg true)]⟩,[],some o⟩:=by
 subst hzd;subst hg
 simp only[eS,decide_eq_true_eq] at H0
 have hle:h.toNat<=ys.length:=by omega
 have hl:(ys.take h.toNat++zs).length=h.toNat+zs.length:=by simp;omega
 simp only[da,decide_eq_true_eq,hl] at H
 have:=Jx (P:=P) (d:=d) (ty:=ty) (ps:=ps) (af:=af) (gd:=gd) (x:=x) (y:=y) (t:=t) (e:=e) (sz:=sz) (by_:=by_) (q:=nx) (n:=h.toNat) hrv ho hs (by simpa using hle) (JA henc zs) (by simp only[aay];exact H.1) (by simp only[aay];omega)
 rw[<-abo,<-abb,aay,<-hl] at this
 exact⟨this,.inl ⟨rfl,dr hd⟩,⟨hx,hy,trivial⟩,vm hp,pR hnx,rfl⟩
theorem apxPF {o:Nat} {ys zs:List α} {c:C} (ls:List Nat) [eB P t e sz by_] (H0:eS ys 0 h=true) (H:da by_ (ys.take h.toNat++zs).length=true) (hzd:zs.map enc=zd) (henc:∀a,(enc a).length=sz) (hfl:∀a,vd (enc a)=true)
 (hp:vl ob ls=some nob) (hs:Src nob c zd gy) (hd:nlt d N=true) (hx:opT sl x= .v (.c (.w o h.toNat))) (hy:opT sl y= .v (.c c)) (ho:go nob o=some (.row e sz (ys.map enc) g true)) (hrv:rsv o=false) (hnx:nxt nx=some nx'):
 NX P N ⟨some d,.call ⟨.builtin .append,#[x,y],#[t,t]⟩,ty,ps,af,gd⟩ ⟨sl,ob,nx⟩ ⟨(d,.v (.c (.w nx (ys.take h.toNat++zs).length)))::sl,(nx,.row e sz ((ys.take h.toNat++zs).map enc) true true)::ob,nx'⟩
  ⟨⟨d,[(x,.v (.c (.w o h.toNat))),(y,.v (.c c))],nob,.v (.c (.w nx (ys.take h.toNat++zs).length)),[(nx,.row e sz ((ys.take h.toNat++zs).map enc) true true)]⟩,[],some o⟩:=by
 obtain⟨h1,h2,h3,h4,h5,h6⟩:=apxP (P:=P) (N:=N) (t:=t) (x:=x) (y:=y) (enc:=enc) (d:=d) (ty:=ty) (ps:=ps) (af:=af) (gd:=gd) (sl:=sl) (ob:=ob) (nx:=nx) ls H0 H hzd henc hp hs hd hx hy ho rfl hrv hnx
 refine⟨?_,h2,h3,h4,pR hnx,rfl⟩
 intro cx E a w ok hne hnob hfr
 refine Oper.wp_mono ?_ (h1 cx E a w ok hne hnob (λl x hm=>by simp at hm;obtain⟨rfl,_⟩:=hm;exact hfr _ _ (.head _)))
 rintro a' w' ⟨v,E',k1,k2,k3,k4,k5,k6,k7⟩
 refine⟨v,E',k1,k2,k3,k4,λl x hm=>?_,k6,λl x hl=>(k7 l x hl).imp id (λ⟨x',hm⟩=>by simp at hm;obtain⟨rfl,_⟩:=hm;exact⟨_,.head _⟩)⟩
 simp at hm;obtain⟨rfl,rfl⟩:=hm
 obtain⟨b,c,arr,j1,j2,j3,j4,j5,j6,j7,j8,j9⟩:=k5 _ _ (.head _)
 refine⟨b,c,arr,j1,j2,j3,by simpa using j4,j5,by simpa using j6,?_,j8,λh=>by cases h⟩
 have:rdLL w' (E'.H true) ((ys.take h.toNat++zs).map enc) b 0:=yR (λe he=>by obtain⟨a,_,rfl⟩:=aa7.1 he;exact hfl a) j7
 simpa using this
end
def nmO (d:Nat):Operand->Bool
 | .tmp t=>!d0 t d
 |_=>true
def Rx (d:Nat):Op->Bool
 | .move x| .assign x| .nilCheck x| .fieldAddr _ x _| .field _ x _| .load _ x| .unOp _ _ x| .convert _ _ x| .extract x _=>nmO d x
 | .store _ x y| .indexAddr _ x y| .index _ x y| .binOp _ _ x y _=>nmO d x&&nmO d y
 | .buildSlice _ _ ps| .build _ ps=>ps.toList.all λp=>nmO d p.2
 | .call c=>(match c.callee with| .value x=>nmO d x| .builtin _=>true|_=>false)&&c.args.toList.all (nmO d)
 |_=>false
theorem Z1 {d:Nat} {ρ ρ':Operand->Value} (hρ:∀x,nmO d x=true->ρ x=ρ' x) {l:Array Operand} (h:l.toList.all (nmO d)=true):l.map ρ=l.map ρ':=by
 apply abR
 intro x hx
 exact hρ x (aag.1 h x (by simpa using hx))
theorem XB {d:Nat} {ρ ρ':Operand->Value} (hρ:∀x,nmO d x=true->ρ x=ρ' x) {l:Array (α×Operand)} (h:(l.toList.all λp=>nmO d p.2)=true):(l.map λ(i,x)=>(i,ρ x))=(l.map λ(i,x)=>(i,ρ' x)):=by
 apply abR
 rintro⟨i,x⟩ hx
 have:=hρ x (aag.1 h (i,x) (by simpa using hx))
 simp[this]
theorem XO {d:Nat} {o:Oper} {ρ ρ':Operand->Value} (h:Rx d o.op=true) (hρ:∀x,nmO d x=true->ρ x=ρ' x):execOp ρ o=execOp ρ' o:=by
 unfold execOp
 cases e:o.op with
 |move x|assign x|nilCheck x|fieldAddr _ x _|field _ x _|load _ x|unOp _ _ x|convert _ _ x|extract x _=>
  rw[e] at h;simp only[hρ x h]
 |store _ x y|indexAddr _ x y|index _ x y|binOp _ _ x y _=>
  rw[e] at h;simp only[Rx,hV] at h;simp only[hρ x h.1,hρ y h.2]
 |buildSlice _ _ ps|build _ ps=>rw[e] at h;simp only[XB hρ h]
 |call c=>
  rw[e] at h
  simp only[Rx,hV] at h
  have h2:=Z1 hρ h.2
  have:resolve ρ c o.type=resolve ρ' c o.type:=by
   unfold resolve
   rw[h2]
   cases e2:c.callee with
   |value x=>have h1:=h.1;rw[e2] at h1;simp only[hρ x h1]
   |builtin b=>rfl
   |invoke r n=>have h1:=h.1;rw[e2] at h1;cases h1
  simp only[this]
 |_=>first|rfl|(rw[e] at h;cases h)
section
variable {P:Program} {ops:Array Oper} {Q:Exit->Act->World->Prop}
theorem vr (a:Act) (o:Option Nat) (d:Nat) (u v:Value) (h:o≠some d):(a.put (some d) v).put o u=(a.put o u).put (some d) v:=by
 cases o with
 |none=>rfl
 |some k=>
  have hk:k≠d:=λe=>h (by rw[e])
  simp only[Act.put]
  congr 1
  exact abP _ _ (Ne.symm hk)
theorem T4 {d:Nat} {v:Value} {x:Operand} (h:nmO d x=true):(a.put (some d) v).eval x=a.eval x:=by
 cases x with
 |tmp t=>
  have ht:t≠d:=λe=>by subst e;simp[nmO] at h
  show(a.tmps.setIfInBounds d v).getD t undef=a.tmps.getD t undef
  rw[aaC,aaC,aaU (Ne.symm ht)]
 |_=>rfl
theorem Ws {o:Oper} {d:Nat} {v:Value} {K K':Act->World->Prop} (hQ:∀e a w,Q e a w->e= .normal) (h:Rx d o.op=true) (hd:o.dst≠some d) (hs:o.dst≠some s)
 (hK:∀a' w',a'.tmps.getD s undef=a.tmps.getD s undef->K (a'.put (some d) v) w'->K' a' w') (hh:o.wp P (a.put (some d) v) w K Q):o.wp P a w K' Q:=by
 have hput:∀(a0:Act) (u:Value),a0.tmps=a.tmps->(a0.put o.dst u).tmps.getD s undef=a.tmps.getD s undef:=λa0 u h0=>by
  rw[<-h0]
  cases e:o.dst with
  |none=>rfl
  |some k=>
   have hk:k≠s:=λe'=>hs (by rw[e,e'])
   show(a0.tmps.setIfInBounds k u).getD s undef=a0.tmps.getD s undef
   rw[aaC,aaC,aaU hk]
 unfold Oper.wp at*
 rw[XO h (ρ':=a.eval) (λx hx=>T4 hx)] at hh
 generalize hr:(execOp a.eval o).run P w=r at*
 cases r with
 |ok n w'=>
  cases n with
  |value u=>exact hK _ w' (hput a u rfl) (by rw[<-vr a o.dst d u v hd];exact hh)
  |skip=>exact hK _ w' (hput a undef rfl) (by rw[<-vr a o.dst d undef v hd];exact hh)
  |defer x=>exact hK _ w' (hput {a with defers:=x::a.defers} undef rfl) (by rw[<-vr _ o.dst d undef v hd];exact hh)
  |enter f args=>
   refine Calls.mono hh (λe w'' he=>?_)
   cases e with
   |returned u=>exact hK _ w'' (hput a u rfl) (by rw[<-vr a o.dst d u v hd];exact he)
   |panicked c=>have:=hQ _ _ _ he;cases this
   |outgrown=>exact he
  |row r args=>exact Rows.mono hh (λu w'' he=>hK _ w'' (hput a u rfl) (by rw[<-vr a o.dst d u v hd];exact he))
  |_=>exact hh.elim
 |halt x w'=>
  cases x with
  |panic u=>have:=hQ _ _ _ hh;cases this
  |_=>exact hh.elim
def IH (ops:Array Oper) (i0 d s:Nat):Prop:=∀j o,ops[j]?=some o->j≠i0->(∃e∈o.after,Region.binds .any e=true/\e.on=i0)\/(Rx d o.op=true/\o.dst≠some d/\o.dst≠some s/\∀q b,o.guard=some (q,b)->(ops[q]?).bind (·.dst)≠some d)
theorem OD {o:Oper} {d:Nat} {v:Value} (hg:∀q b,o.guard=some (q,b)->(ops[q]?).bind (·.dst)≠some d):Region.wanted o (yielded ops (a.put (some d) v).tmps)=Region.wanted o (yielded ops a.tmps):=by
 unfold Region.wanted
 cases e:o.guard with
 |none=>rfl
 |some qb=>
  obtain⟨q,b⟩:=qb
  have:=hg q b e
  have hy:yielded ops (a.put (some d) v).tmps q=yielded ops a.tmps q:=by
   unfold yielded
   cases e2:(ops[q]?).bind (·.dst) with
   |none=>rfl
   |some k=>
    have hk:d≠k:=λe'=>this (by rw[e2,e'])
    show(match(a.tmps.setIfInBounds d v)[k]? with|some (.bool b)=>some b|_=>none)=_
    rw[aaU hk]
    rfl
  simp only[hy]
theorem EF {i0 d:Nat} {o0:Oper} {listed:Array Bool} (hQ:∀e a w,Q e a w->e= .normal) (ho:ops[i0]?=some o0) (hop:o0.op= .move (.tmp s)) (hod:o0.dst=some d) (hog:o0.guard=none) (hoa:o0.after= #[]) (hE:IH ops i0 d s) (hlt:i0<ops.size)
 (hsz:listed.size=ops.size) (hun:listed.getD i0 false=false) (hh:wpAny P .any ops Q n (listed.setIfInBounds i0 true) (a.put (some d) (a.tmps.getD s undef)) w)
 (h:∀i,(i∈Region.ready .any ops listed/\i≠i0/\i∈Region.ready .any ops (listed.setIfInBounds i0 true))->wpOp P ops Q i (wpAny P .any ops Q n (listed.setIfInBounds i true)) a w):wpAny P .any ops Q (n+1) listed a w:=by
 have hr0:i0∈Region.ready .any ops listed:=by
  rw[mem_ready]
  refine⟨?_,o0,ho,λe he=>by rw[hoa] at he;simp at he⟩
  rw[aaC,aar oaa] at hun ⊢
  simpa using hun
 refine⟨λh0=>(by rw[h0] at hr0;cases hr0),λi hi=>?_⟩
 by_cases hne:i=i0
 .subst hne
  unfold wpOp
  simp only[ho]
  rw[if_pos (by simp[Region.wanted,hog])]
  refine .inl ?_
  unfold Oper.wp execOp
  rw[hop]
  show wpAny P .any ops Q n _ (a.put o0.dst (a.tmps.getD s undef)) w
  rw[hod]
  exact hh
 refine h i ⟨hi,hne,?_⟩
 obtain⟨h1,h2,o,h3,h4⟩:=mX hsz hi
 rw[mem_ready]
 refine⟨?_,o,h3,λe he hb=>?_⟩
 .have:(listed.setIfInBounds i0 true).getD i false=false:=by rw[cH oaa,if_neg (Ne.symm hne)];exact h2
  rw[aaC,aar (by simp;omega)] at this ⊢
  simpa using this
 rw[cH oaa]
 split
 .rfl
 exact h4 e he hb
theorem MV {i0 d:Nat} {o0:Oper} (hQ:∀e a w,Q e a w->e= .normal) (ho:ops[i0]?=some o0) (hop:o0.op= .move (.tmp s)) (hod:o0.dst=some d) (hog:o0.guard=none) (hoa:o0.after= #[]) (hsd:s≠d) (hE:IH ops i0 d s):
 ∀(n:Nat) (listed:Array Bool) (a:Act) (w:World),listed.size=ops.size->listed.getD i0 false=false->wpAny P .any ops Q n (listed.setIfInBounds i0 true) (a.put (some d) (a.tmps.getD s undef)) w->wpAny P .any ops Q (n+1) listed a w:=by
 have hlt:i0<ops.size:=by
  rcases aao i0 ops.size with h|h
  .exact h
  rw[aaw h] at ho;cases ho
 intro n
 induction n with
 |zero=>
  intro listed a w hsz hun hh
  refine EF hQ ho hop hod hog hoa hE hlt hsz hun hh (λi hi=>?_)
  have hi2:=hi.2.2;rw[hh.1] at hi2;cases hi2
 |succ n ih=>
  intro listed a w hsz hun hh
  refine EF hQ ho hop hod hog hoa hE hlt hsz hun hh (λi hi=>?_)
  obtain⟨h1,h2,o,h3,h4⟩:=mX hsz hi.1
  have hne:=hi.2.1
  have hR:=hi.2.2
  have h5:=hh.2 i hR
  rcases hE i o h3 hne with⟨e,he,hb,hon⟩|⟨k1,k2,k3,k4⟩
  .have:=h4 e he hb;rw[hon,hun] at this;cases this
  have hs2:(listed.setIfInBounds i true).size=ops.size:=by simpa using hsz
  have hun2:(listed.setIfInBounds i true).getD i0 false=false:=by rw[cH oaa,if_neg hne];exact hun
  have key:∀a' w',a'.tmps.getD s undef=a.tmps.getD s undef->wpAny P .any ops Q n ((listed.setIfInBounds i0 true).setIfInBounds i true) (a'.put (some d) (a.tmps.getD s undef)) w'->wpAny P .any ops Q (n+1) (listed.setIfInBounds i true) a' w':=λa' w' hs' hk=>by
   refine ih _ a' w' hs2 hun2 ?_
   rw[hs',abP _ _ hne];exact hk
  unfold wpOp at h5 ⊢
  simp only[h3] at h5 ⊢
  rw[OD k4] at h5
  split
  .rename_i hw
   rw[if_pos hw] at h5
   rcases h5 with h5|⟨_,a'',w'',h5⟩
   .exact .inl (Ws hQ k1 k2 k3 key h5)
   have:=hQ _ _ _ h5;cases this
  rename_i hw
  rw[if_neg hw] at h5
  rw[vr a o.dst d undef _ k2] at h5
  refine key _ w ?_ h5
  cases e:o.dst with
  |none=>rfl
  |some k=>
   have hk:k≠s:=λe'=>k3 (by rw[e,e'])
   show(a.tmps.setIfInBounds k undef).getD s undef=a.tmps.getD s undef
   rw[aaC,aaC,aaU hk]
theorem MW {Q':Exit->Act->World->Prop} (hQ:∀e a w,Q e a w->Q' e a w):∀(n:Nat) (listed:Array Bool) (a:Act) (w:World),wpAny P .any ops Q n listed a w->wpAny P .any ops Q' n listed a w:=by
 intro n
 induction n with
 |zero=>exact λ_ _ _ h=>⟨h.1,hQ _ _ _ h.2⟩
 |succ n ih=>
  intro listed a w h
  refine⟨λh0=>hQ _ _ _ (h.1 h0),λi hi=>?_⟩
  have h2:=h.2 i hi
  unfold wpOp at h2 ⊢
  split
  .rename_i e;simp only[e] at h2;exact ih _ _ _ h2
  rename_i o e
  simp only[e] at h2
  split
  .rename_i hw
   rw[if_pos hw] at h2
   rcases h2 with h2|⟨h2,a',w',h3⟩
   .exact .inl (tz hQ (Oper.wp_mono (λa w=>ih _ a w) h2))
   exact .inr ⟨h2,a',w',hQ _ _ _ h3⟩
  rename_i hw
  rw[if_neg hw] at h2
  exact ih _ _ _ h2
end
def No (ops:Array Oper) (i0 d s:Nat):Bool:=
 (match ops[i0]? with
  |some ⟨some d',.move (.tmp s'),_,_,af,none⟩=>d0 d' d&&d0 s' s&&af.toList.isEmpty
  |_=>false)&&!d0 s d&&(f4 ops.size).all λj=>d0 j i0||(match ops[j]? with
   |some o=>(o.after.toList.any λe=>Region.binds .any e&&d0 e.on i0)||(Rx d o.op&&(match o.dst with|some k=>!d0 k d&&!d0 k s|none=>true)&&
    (match o.guard with|some (q,_)=>(match(ops[q]?).bind (·.dst) with|some k=>!d0 k d|none=>true)|none=>true))
   |none=>false)
theorem XN {a b:Nat} (h:(!d0 a b)=true):a≠b:=λe=>by subst e;simp at h
theorem QV {ops:Array Oper} {i0 d:Nat} (h:No ops i0 d s=true):(∃o0,ops[i0]?=some o0/\o0.op= .move (.tmp s)/\o0.dst=some d/\o0.guard=none/\o0.after= #[])/\s≠d/\IH ops i0 d s:=by
 simp only[No,hV] at h
 obtain⟨⟨h1,h2⟩,h3⟩:=h
 refine⟨?_,XN h2,λj o hj hne=>?_⟩
 .split at h1
  .rename_i d' s' ty ps af e
   simp only[hV] at h1
   obtain⟨⟨k1,k2⟩,k3⟩:=h1
   have e1:=aad k1
   have e2:=aad k2
   subst e1;subst e2
   refine⟨_,e,rfl,rfl,rfl,?_⟩
   have:af.toList=[]:=by simpa using k3
   exact Array.toList_eq_nil_iff.1 this
  cases h1
 have hlt:j<ops.size:=by
  rcases aao j ops.size with h|h
  .exact h
  rw[aaw h] at hj;cases hj
 have k:=aag.1 h3 j (by simpa using hlt)
 simp only[hj,aam,hV] at k
 rcases k with k|k|⟨⟨k1,k2⟩,k3⟩
 .exact absurd (aad k) hne
 .obtain⟨e,he,hb⟩:=aaD.1 k
  simp only[hV] at hb
  exact .inl ⟨e,by simpa using he,hb.1,aad hb.2⟩
 refine .inr ⟨k1,λe=>?_,λe=>?_,λq b hg e=>?_⟩
 .rw[e] at k2;simp at k2
 .rw[e] at k2;simp at k2
 simp only[hg,e] at k3;simp at k3
theorem OQ {l:List Oper} {ob:Laa} {AQ:Exit->St->Prop} (i0 d s:Nat) (is:List Nat) {r:List (Nat×Oper)} {t:T} (hm:P.follows .mixedOrders=true) (he:DL l.toArray=true) (hc:Tw l.length (i0::is)=true) (ho:JT l is=some r)
 (hE:No l.toArray i0 d s=true) (hd:nlt d N=true) (ht:gt sl s=t) (h:DZ P N l.toArray r [i0] [] [] ⟨(d,t)::sl,ob,nx⟩ ⟨(d,t)::sl,ob,nx⟩ (λs=>AQ .normal s)):AWC P N (.region id l.toArray true) ⟨sl,ob,nx⟩ AQ:=by
 subst ht
 intro cx E a w hR
 refine wp_region_any hm ?_
 have hR':=Bz hR
 obtain⟨⟨o0,e1,e2,e3,e4,e5⟩,hsd,hE⟩:=QV hE
 have hlt:i0<l.toArray.size:=by
  rcases aao i0 l.toArray.size with h|h
  .exact h
  rw[aaw h] at e1;cases e1
 have hdN:d<N:=dr hd
 have hedge:∀i o,l.toArray[i]?=some o->∀e∈o.after,Region.binds .any e=true->e.on<i:=by
  intro i o ho e hm hb
  have hi:i<l.toArray.size:=by
   rcases aao i l.toArray.size with h|h
   .exact h
   rw[aaw h] at ho;cases ho
  have:=aag.1 he i (by simpa using hi)
  simp only[ho] at this
  have:=aag.1 this e (by simpa using hm)
  simp only[hb,abj,aaJ] at this
  exact dr this
 have hfull:unl l.toArray (aak l.toArray.size false)=l.toArray.size:=by
  unfold unl
  rw[abN.2]
  .simp
  intro i hi;rw[ik];rfl
 have hst:=tv (ops:=l.toArray) (listed:=aak l.toArray.size false) (i:=i0) (by simp) hlt (ik _ _)
 rw[hfull] at hst
 have hcl:xt l.toArray ((aak l.toArray.size false).setIfInBounds i0 true):=xC (by simp) hlt e1 (λe he=>by rw[e5] at he;simp at he) (λi o ho hd=>by rw[ik] at hd;cases hd)
 have hR2:Rel N cx E ⟨(d,gt sl s)::sl,ob,nx⟩ (a.put (some d) (a.tmps.getD s undef)) {w with drawn:=w.drawn+1}:=by
  refine⟨hR'.ok,hR'.dom,hR'.obs,λk=>?_,hR'.dfr,by simpa [Act.put] using hR'.size,hR'.td⟩
  rw[iJ (by rw[hR'.size];exact hdN)]
  by_cases hk:d=k
  .subst hk;rw[d4,if_pos rfl];exact hR'.sl s
  rw[di _ _ hk,if_neg hk];exact hR'.sl k
 have key:=TU (P:=P) (cx:=cx) (Q:=λe a w=>e= .normal/\Fm N cx AQ .normal a w) (TX hedge) (λE st a w hR hK=>⟨rfl,E,st,hR,hK⟩) h rfl (λq hq=>by have:=(s5 ho).1 q hq;simpa using this) (λj hj=>by
  have hj':j<l.length:=by simpa using hj
  have:=aag.1 hc j (by simpa using hj')
  rcases aae.1 (gS.1 this) with e|e
  .subst e;exact .inr (.inl (by simp))
  exact .inr (.inr ((s5 ho).2 j e))) (λi o y _ hy=>by simp at hy) (λk=>rfl) rfl rfl ((aak l.toArray.size false).setIfInBounds i0 true) _ _ E (by simp) hcl (λj=>by
  rw[cH (by simpa using hlt)]
  split
  .rename_i e;subst e;simp[mJ]
  rename_i e;rw[ik];symm;rw[Bool.eq_false_iff];intro h;have:=gS.1 h;simp at this;exact e this.symm) hR2
 have k2:=MV (λe a w h=>h.1) e1 e2 e3 e4 e5 hsd hE _ (aak l.toArray.size false) a {w with drawn:=w.drawn+1} (by simp) (ik _ _) key
 rw[<-hst] at k2
 exact MW (λe a w h=>by obtain⟨h1,h2⟩:=h;subst h1;exact h2) _ _ _ _ k2
section
variable {P:Program} {N:Nat} {d:Tmp} {x y:Operand} {ty:TypeId} {ps:String} {af:Array Edge} {gd:Option (Nat×Bool)} {sl:Lab} {ob:Laa} {nx:Nat}
end
def qP (ops:Array Oper):Array Bool->List Nat->Prop
 |listed,[]=>Region.ready .any ops listed=[]
 |listed,i::L=>i∈Region.ready .any ops listed/\qP ops (listed.setIfInBounds i true) L
section
variable {P:Program} {ops:Array Oper} {Q:Exit->Act->World->Prop}
theorem Rf:∀(fuel t:Nat) (listed:Array Bool),listed.size=ops.size->unl ops listed<=fuel->qP ops listed (Region.linearise.go .any ops fuel t listed []):=by
 intro fuel
 induction fuel with
 |zero=>
  intro t listed hsz hu
  simp only[Region.linearise.go,List.reverse_nil,qP]
  rw[abL]
  intro i hi
  obtain⟨h1,h2,_⟩:=mX hsz hi
  have:=tv hsz h1 h2
  omega
 |succ fuel ih=>
  intro t listed hsz hu
  simp only[Region.linearise.go]
  change qP ops listed (match(Region.ready .any ops listed)[t%(Region.ready .any ops listed).length]? with
   |some i=>Region.linearise.go .any ops fuel (t/(Region.ready .any ops listed).length) (listed.setIfInBounds i true) [i]
   |none=>[].reverse)
  cases hi:(Region.ready .any ops listed)[t%(Region.ready .any ops listed).length]? with
  |none=>
   have hnil:Region.ready .any ops listed=[]:=by
    cases hr:Region.ready .any ops listed with
    |nil=>rfl
    |cons x xs=>
     rw[hr] at hi
     have hlt:t%(x::xs).length<(x::xs).length:=Nat.mod_lt _ (by simp)
     grind
   exact hnil
  |some i=>
   simp only[]
   rw[linearise_go_acc,List.reverse_singleton,List.singleton_append]
   have hm:=List.mem_of_getElem? hi
   obtain⟨h1,h2,_⟩:=mX hsz hm
   have:=tv hsz h1 h2
   exact⟨hm,ih _ _ (by simp_all) oaa⟩
theorem Iy:∀(L:List Nat) (listed:Array Bool),listed.size=ops.size->qP ops listed L->L.length<=unl ops listed
 |[],_,_,_=>aas _
 |i::L,listed,hsz,h=>by
  obtain⟨h1,h2,_⟩:=mX hsz h.1
  have:=tv hsz h1 h2
  have h3:=Iy L _ (by simp_all) h.2
  simp_all
theorem Iz:∀(L:List Nat) (n:Nat) (listed:Array Bool) (a:Act) (w:World),qP ops listed L->L.length<=n->wpAny P .any ops Q n listed a w->wpOps P ops Q L a w
 |[],0,_,_,_,_,_,h=>h.2
 |[],n+1,_,_,_,hv,_,h=>h.1 hv
 |i::L,0,_,_,_,_,hl,_=>by simp at hl
 |i::L,n+1,listed,a,w,hv,hl,h=>by
  rw[wpOps_cons]
  exact wpOp_mono (λa w h=>Iz L n _ a w hv.2 (by simp_all) h) (h.2 i hv.1)
end
def qQ:List Oper->Nat->Nat->List Oper
 |[],_,_=>[]
 |⟨d,op,ty,ps,af,gd⟩::r,0,q=>⟨d,op,ty,ps,af.push ⟨q,.data⟩,gd⟩::r
 |o::r,p+1,q=>o::qQ r p q
theorem vR:∀{l:List Oper} {p q i:Nat},i≠p->(qQ l p q)[i]?=l[i]?
 |[],_,_,_,_=>rfl
 |o::r,0,q,0,h=>absurd rfl h
 |⟨d,op,ty,ps,af,gd⟩::r,0,q,i+1,_=>by simp[qQ]
 |o::r,p+1,q,0,_=>by simp[qQ]
 |o::r,p+1,q,i+1,h=>by simp only[qQ,abQ];exact vR (λe=>h (by rw[e]))
theorem yK:∀{l:List Oper} {p q:Nat},(qQ l p q)[p]?=(l[p]?).map λo=>{o with after:=o.after.push ⟨q,.data⟩}
 |[],_,_=>rfl
 |⟨d,op,ty,ps,af,gd⟩::r,0,q=>by simp[qQ]
 |o::r,p+1,q=>by simp only[qQ,abQ];exact yK
theorem Ee:∀{l:List Oper} {p q:Nat},(qQ l p q).length=l.length
 |[],_,_=>rfl
 |⟨d,op,ty,ps,af,gd⟩::r,0,q=>by simp[qQ]
 |o::r,p+1,q=>by simp[qQ,Ee]
theorem nP {l:List Oper} {p:Nat} {listed:Array Bool} :i∈Region.ready .any (qQ l p q).toArray listed↔i∈Region.ready .any l.toArray listed/\(i=p->listed.getD q false=true):=by
 rw[mem_ready,mem_ready]
 simp only[abK]
 by_cases h:i=p
 .subst h
  rw[yK]
  constructor
  .rintro⟨h1,o,ho,hd⟩
   rw[Option.map_eq_some_iff] at ho
   obtain⟨o',ho',rfl⟩:=ho
   exact⟨⟨h1,o',ho',λe he hb=>hd e (by simp[he]) hb⟩,λ_=>hd ⟨q,.data⟩ (by simp) rfl⟩
  grind
 rw[vR h]
 simp_all
theorem GC {l:List Oper} {p q:Nat}:∀(L:List Nat) (listed:Array Bool),listed.size=l.toArray.size->listed.getD q false=true->qP l.toArray listed L->qP (qQ l p q).toArray listed L
 |[],listed,_,hq,h=>by
  show Region.ready .any (qQ l p q).toArray listed=[]
  rw[abL]
  intro i hi
  have:=(nP.1 hi).1
  have h':Region.ready .any l.toArray listed=[]:=h
  simp_all
 |i::L,listed,hsz,hq,h=>by
  refine⟨nP.2 ⟨h.1,λ_=>hq⟩,GC L _ (by simp_all) ?_ h.2⟩
  obtain⟨h1,_⟩:=mX hsz h.1
  rw[cH oaa]
  simp_all
theorem Di {l:List Oper} {p q:Nat} (hpq:p≠q):∀(L:List Nat) (listed:Array Bool),listed.size=l.toArray.size->listed.getD p false=false->listed.getD q false=false->qP l.toArray listed L->qP (qQ l p q).toArray listed L\/qP (qQ l q p).toArray listed L
 |[],listed,_,_,_,h=>by
  left
  show Region.ready .any (qQ l p q).toArray listed=[]
  rw[abL]
  intro i hi
  have:=(nP.1 hi).1
  have h':Region.ready .any l.toArray listed=[]:=h
  simp_all
 |i::L,listed,hsz,hp,hq,h=>by
  have hs2:(listed.setIfInBounds i true).size=l.toArray.size:=by simpa using hsz
  obtain⟨h1,_⟩:=mX hsz h.1
  have hg:∀j,(listed.setIfInBounds i true).getD j false=if i=j then true else listed.getD j false:=λj=>cH oaa
  by_cases e1:i=q
  .left
   exact⟨nP.2 ⟨h.1,λe=>absurd (e.symm.trans e1) hpq⟩,GC L _ hs2 (by simp_all) h.2⟩
  by_cases e2:i=p
  .right
   exact⟨nP.2 ⟨h.1,λe=>absurd e e1⟩,GC L _ hs2 (by simp_all) h.2⟩
  rcases Di hpq L _ hs2 (by simp_all) (by simp_all) h.2 with k|k
  .exact .inl ⟨nP.2 ⟨h.1,λe=>absurd e e2⟩,k⟩
  exact .inr ⟨nP.2 ⟨h.1,λe=>absurd e e1⟩,k⟩
section
variable {P:Program} {Q:Exit->Act->World->Prop}
theorem KB {l:List Oper} {p:Nat} (ts:Array Value) (j:Nat):yielded (qQ l p q).toArray ts j=yielded l.toArray ts j:=by
 unfold yielded
 have:(((qQ l p q).toArray)[j]?).bind (·.dst)=((l.toArray)[j]?).bind (·.dst):=by
  simp only[abK]
  by_cases h:j=p
  .subst h;rw[yK];grind
  rw[vR h]
 rw[this]
theorem AF {l:List Oper} {p q:Nat}:∀(L:List Nat) (a:Act) (w:World),wpOps P (qQ l p q).toArray Q L a w->wpOps P l.toArray Q L a w
 |[],_,_,h=>h
 |i::L,a,w,h=>by
  rw[wpOps_cons] at h ⊢
  have h':=wpOp_mono (λa w=>AF L a w) h
  unfold wpOp at h' ⊢
  have hy:yielded (qQ l p q).toArray a.tmps=yielded l.toArray a.tmps:=funext (KB a.tmps)
  rw[hy] at h'
  simp only[abK] at h' ⊢
  by_cases e:i=p
  .subst e
   rw[yK] at h'
   cases e2:l[i]? with
   |none=>simp_all
   |some o=>rw[e2] at h';exact h'
  rw[vR e] at h';exact h'
end
def rkO:List Nat->Nat->Nat
 |[],_=>0
 |i::is,k=>bif d0 i k then 0 else rkO is k+1
def TY (ops:Array Oper) (is:List Nat):Bool:=
 (f4 ops.size).all λi=>match ops[i]? with
  |some o=>o.after.toList.all λe=>!Region.binds .any e||(nlt e.on ops.size&&nlt (rkO is e.on) (rkO is i))
  |none=>false
theorem QW {ops:Array Oper} {is:List Nat} (h:TY ops is=true):Edg ops (rkO is):=by
 intro i o ho e he hb
 have hi:i<ops.size:=by
  rcases aao i ops.size with h|h
  .exact h
  simp_all
 have:=aag.1 h i (by simp_all)
 simp only[ho] at this
 have:=aag.1 this e (by simp_all)
 simp only[hb,abj,aaJ,hV] at this
 exact⟨dr this.1,dr this.2⟩
def AWA (P:Program) (N:Nat) (l:List Oper) (st:St) (K:St->Prop):Prop:=
 ∀cx E a w,Rel N cx E st a w->∀L,qP l.toArray (aak l.toArray.size false) L->wpOps P l.toArray (Fm N cx (onN K)) L a {w with drawn:=w.drawn+1}
theorem Ht {l:List Oper} {K:St->Prop} (p q:Nat) (hpq:d0 p q=false) (h1:AWA P N (qQ l p q) st K) (h2:AWA P N (qQ l q p) st K):AWA P N l st K:=by
 intro cx E a w hR L hv
 have e1:(qQ l p q).toArray.size=l.toArray.size:=by simp[Ee]
 have e2:(qQ l q p).toArray.size=l.toArray.size:=by simp[Ee]
 have hne:p≠q:=λe=>by simp_all
 rcases Di hne L _ (by simp) (ik _ _) (ik _ _) hv with k|k
 .rw[<-e1] at k;exact AF L _ _ (h1 cx E a w hR L k)
 rw[<-e2] at k;exact AF L _ _ (h2 cx E a w hR L k)
theorem IQ {l:List Oper} {K:St->Prop} (is:List Nat) {r:List (Nat×Oper)} (he:TY l.toArray is=true) (hc:Tw l.length is=true) (ho:JT l is=some r)
 (h:DZ P N l.toArray r [] [] [] st st K):AWA P N l st K:=by
 intro cx E a w hR L hv
 have hR':=Bz hR
 have hedge:=QW he
 have hfull:unl l.toArray (aak l.toArray.size false)=l.toArray.size:=by
  unfold unl
  rw[abN.2]
  .simp
  simp_all
 have:=TU (P:=P) (cx:=cx) (Q:=Fm N cx (onN K)) hedge (λE st a w hR hK=>⟨E,st,hR,hK⟩) h rfl (λq hq=>by have:=(s5 ho).1 q hq;simp_all) (λj hj=>by
  have hj':j<l.length:=by simpa using hj
  have:=aag.1 hc j (by simp_all)
  exact .inr (.inr ((s5 ho).2 j (gS.1 this)))) (λi o y _ hy=>by simp at hy) (λk=>rfl) rfl rfl (aak l.toArray.size false) a _ E (by simp) (λi o ho hd=>by rw[ik] at hd;cases hd) (λj=>by rw[ik];simp[mJ]) hR'
 exact Iz L _ _ _ _ hv (Iy L _ (by simp) hv) this
theorem OP {l:List Oper} {AQ:Exit->St->Prop} (M:St) [c:Clo N AQ] (hm:P.follows .mixedOrders=true) (h:AWA P N l st (λs=>dS N s M)) (h2:AQ .normal M):AWC P N (.region id l.toArray true) st AQ:=by
 refine AK (AQ:=onN λs=>dS N s M) ?_ (λe s h=>by
  cases e<;>first|exact c.h _ _ _ h h2|exact h.elim)
 intro cx E a w hR
 exact wp_region_draw λt=>by
  simp only[Region.schedule,hm,Bool.true_or,if_true]
  exact h cx E a w hR _ (Rf _ _ _ (by simp) (by
   unfold unl
   grind))
def cpD (els:List α) (off:Nat) (ys:List α):List α:=els.take off++cpL (els.drop off) ys
theorem WX {β:Type} (f:α->β) (els ys:List α) (off:Nat):cpD (els.map f) off (ys.map f)=(cpD els off ys).map f:=by simp[cpD,<-abo,<-abv,OU]
@[simp] theorem cpD_len (els ys:List α) (off:Nat):(cpD els off ys).length=els.length:=by simp[cpD];omega
section
variable {P:Program} {N:Nat} {d:Tmp} {ty:TypeId} {ps:String} {af:Array Edge} {gd:Option (Nat×Bool)} {x y z:Operand} {st:St}
theorem U1 {o off len:Nat} {ys:Lad} {c:C} [ht:eB P t e sz by_] (hd:d<N)
 (hx:opT st.sl x= .v (.c (.s o sz off len))) (hy:opT st.sl y= .v (.c c)) (ho:go st.ob o=some (.row e sz els g true)) (hs:Src st.ob c ys gy)
 (hn:els.length=off+len) (hsz:∀e∈ys,e.length=sz):
 AWO P N ⟨some d,.call ⟨.builtin .copy,#[x,y],#[t,t]⟩,ty,ps,af,gd⟩ st ⟨(d,.any)::st.sl,(o,.row e sz (cpD els off ys) (g&&gy) true)::st.ob,st.nx⟩:=by
 intro cx E a w hR
 have h1:=hR.op x;rw[hx] at h1
 have h2:=hR.op y;rw[hy] at h2
 obtain⟨AA,cc,b,kk,hr,hu,hlc0,hAA⟩:=h1
 obtain⟨b',c',arr,hr',hh,ha,hlc,hmx,hes,hrd,hFm,_⟩:=hR.obs o _ ho
 rw[hr] at hr';cases hr'
 have hF:=hFm rfl
 obtain⟨A,k,hv,hyk,hA⟩:=Ot hR hs h2
 obtain⟨ii,zz,i1,i2,i3,i4,i5⟩:=ht.i
 obtain⟨m,hm⟩:∃m,m=Nat.min ys.length len:=⟨_,rfl⟩
 have hm1:m<=ys.length:=by rw[hm];exact Nat.min_le_left _ _
 have hm2:m<=len:=by rw[hm];exact Nat.min_le_right _ _
 have hcp:cpD els off ys=els.take off++ys.take m++els.drop (off+m):=by
  unfold cpD cpL
  rw[List.length_drop,List.drop_drop,List.append_assoc,hn,show off+len-off=len by omega]
  congr 1
  rcases Nat.le_total ys.length len with h|h
  .grind
  simp_all
 have hsrc:∃news:Lae,news.length=m*sz/\(∀u∈news,u.oneCell'=true)/\(∀(j:Nat) (xd:D),(ys.take m).flatten[j]?=some xd->∃u,news[j]?=some u/\rdD w (E.H gy) xd u)/\
  (Builtin.firstCells sz m (.slice A ys.length k)).run P w= .ok news.toArray w:=by
  rcases hA with h0|⟨b2,off,rfl,hrd2⟩
  .subst h0
   have hm0:m=0:=by simpa using hm1
   refine⟨[],by simp[hm0],by simp,by simp,?_⟩
   cases A with
   |none=>rfl
   |some ad=>simp[Builtin.firstCells,hm0,loadCells,loadCellsFrom]
  obtain⟨us,q1,q2,q3,q4⟩:=vw (fF.1 (pS m hrd2))
  have ql:us.length=m*sz:=by
   rw[q1,gO (λe he=>hsz e (aaA he)),abf,aaF hm1]
  refine⟨us,ql,q3,q4,?_⟩
  simp only[Builtin.firstCells]
  exact zH ql (λj u hj=>by have:=q2 j u hj;rwa [vS] at this)
 obtain⟨news,n1,n2,n3,n4⟩:=hsrc
 have hmul:off*sz+m*sz<=arr.size:=by rw[ha,<-aaP];exact Nat.mul_le_mul_right _ oaa
 have hrun:∃w',w'=w.setRow b (arr.toList.take (off*sz)++news++arr.toList.drop (off*sz+m*sz)).toArray/\(Builtin.copy_ #[t,t] ty #[.slice AA len cc,.slice A ys.length k]).run P w= .ok (goInt m) w':=by
  refine⟨_,rfl,?_⟩
  rcases hAA with h0|rfl
  .have hm0:m=0:=by omega
   subst hm0
   have hn0:news=[]:=aaL oaa
   subst hn0
   have hw:w.setRow b (arr.toList.take (off*sz)++[]++arr.toList.drop (off*sz+0*sz)).toArray=w:=by
    rw[Nat.zero_mul,aaT,List.append_nil,abM,aaV,setRow_self w b arr e (0,0) hh]
   rw[hw]
   simp only[Builtin.copy_]
   simp[underlying,ht.u,Builtin.lenOf,fm i1,i2]
   rw[<-hm,n4]
   cases AA<;>simp[storeCells]
  have hst:=run_storeCells_at (P:=P) b (off*sz) e news 0 arr w hh oaa n2
  simp only[aaT,n1] at hst
  simp only[Builtin.copy_]
  simp[underlying,ht.u,Builtin.lenOf,fm i1,i2]
  simp_all
 obtain⟨w',hw',hrun⟩:=hrun
 unfold Oper.wp
 simp only[execOp,resolve,invoke,builtin,Sem.run_bind,Sem.run_pure,Result.andThen_ok,abn,aaB,abd,hu,hv,hrun,Oper.upon_value]
 subst hw'
 generalize hcs:(arr.toList.take (off*sz)++news++arr.toList.drop (off*sz+m*sz)).toArray=cs
 have hk:=ku (cs:=cs) (w:=w) hR.ok hr hF
 have hall:∀e'∈cpD els off ys,e'.length=sz:=λe' he'=>by
  grind
 have hlt:(arr.toList.take (off*sz)).length=off*sz:=by simp;omega
 have hrel:=wx (ob':=.row e sz (cpD els off ys) (g&&gy) true) (cs:=cs) hR hr hF ⟨b,_,_,hr,jm _ hh,by grind,by grind,hmx,hall,by
  rw[fF]
  refine oT λj xd hj=>?_
  rw[aaj,fa (jm _ hh),show cs[j]?=(arr.toList.take (off*sz)++news++arr.toList.drop (off*sz+m*sz))[j]? by grind]
  rw[hcp,abe,abe] at hj
  have hft:(els.take off).flatten.length=off*sz:=by rw[gO (λe he=>hes e (aaA he)),abf,aaF oaa]
  have hfl:(ys.take m).flatten.length=m*sz:=by rw[gO (λe he=>hsz e (aaA he)),abf,aaF hm1]
  have old:∀(p:Nat) (xd:D),els.flatten[p]?=some xd->∃u,arr[p]?=some u/\rdD (w.setRow b cs) (E.H (g&&gy)) xd u:=λp xd hp=>by
   obtain⟨u,u1,u2⟩:=nO (fF.1 hrd) hp
   rw[aaj,fa hh] at u1
   exact⟨u,u1,cW (hk.heap _) (hk.H _) _ _ (pF hR.ok u2 (by simp_all))⟩
  by_cases hj1:j<off*sz
  .rw[aal (by grind),aal oaa] at hj
   have hjd:els.flatten[j]?=some xd:=by
    rw[<-abM off els,abe,aal oaa];exact hj
   obtain⟨u,u1,u2⟩:=old _ _ hjd
   grind
  by_cases hjn:j<off*sz+m*sz
  .rw[aal (by simp_all),aan oaa,hft] at hj
   obtain⟨u,u1,u2⟩:=n3 _ _ hj
   exact⟨u,by grind,cW (hk.heap _) (hk.H _) _ _ (pF hR.ok u2 (by simp))⟩
  rw[aan (by simp_all),aav,hft,hfl] at hj
  have hjd:els.flatten[j]?=some xd:=by
   have e1:els.flatten=(els.take (off+m)).flatten++(els.drop (off+m)).flatten:=by rw[<-abe,abM]
   have e2:(els.take (off+m)).flatten.length=off*sz+m*sz:=by rw[gO (λe he=>hes e (aaA he)),abf,aaF oaa,aaP]
   rw[e1,aan oaa,e2];exact hj
  obtain⟨u,u1,u2⟩:=old _ _ hjd
  refine⟨u,?_,u2⟩
  have hl2:(arr.toList.take (off*sz)++news).length=off*sz+m*sz:=by rw[aav,hlt,n1]
  rw[aan oaa,hl2,List.getElem?_drop,show off*sz+m*sz+(j-(off*sz+m*sz))=j from by omega]
  simp_all,λ_=>hF,λh=>by cases h⟩
 exact⟨E,hrel.putAny hd _⟩
theorem cpsT {enc:α->List D} {ob:Laa} {o:Nat} {ys zs:List α} {l:Int} {gg:Bool} {c:C} [eB P t e sz by_] (H:eS ys l ys.length=true) (hzd:zs.map enc=zd:=by exact rfl) (henc:∀a,(enc a).length=sz:=by exact λ_=>rfl) (hd:nlt d N=true:=by exact rfl)
 (hx:opT sl x= .v (.c (.s o sz l.toNat (n-l.toNat))):=by exact rfl) (hy:opT sl y= .v (.c c):=by exact rfl) (hn:ys.length=n:=by first|rfl|simp) (hs:Src ob c zd gy:=by first|exact .d|exact .nil|exact .w rfl (by first|rfl|exact lm _|simp)|exact .wn rfl (by first|rfl|exact lm _|simp)) (ho:go ob o=some (.row e sz (ys.map enc) g true):=by exact rfl) (hg:(g&&gy)=gg:=by exact rfl):
 AWO P N ⟨some d,.call ⟨.builtin .copy,#[x,y],#[t,t]⟩,ty,ps,af,gd⟩ ⟨sl,ob,nx⟩ ⟨(d,.any)::sl,(o,.row e sz ((cpD ys l.toNat zs).map enc) gg true)::ob,nx⟩:=by
 simp only[eS,decide_eq_true_eq] at H
 subst hzd;subst hg;subst hn
 have:=U1 (P:=P) (N:=N) (st:=⟨sl,ob,nx⟩) (d:=d) (ty:=ty) (ps:=ps) (af:=af) (gd:=gd) (t:=t) (e:=e) (sz:=sz) (by_:=by_) (dr hd) hx hy ho hs (by simp_all) (JA henc zs)
 rwa [WX] at this
theorem weak_g {o:Nat} {rt:TypeId} {ob:Laa} (ho:go ob o=some (.row rt sz els true true):=by exact rfl):dS N ⟨sl,ob,nx⟩ ⟨sl,(o,.row rt sz els false true)::ob,nx⟩:=by
 intro cx E a w hR
 refine⟨E,hR.ok,hR.dom,λl x hl=>?_,hR.sl,hR.dfr,hR.size,hR.td⟩
 by_cases e:o=l
 .subst e
  rw[cU] at hl;cases hl
  obtain⟨b,c,arr,hr,hh,h1,h2,h3,h4,h5,h6,h7⟩:=hR.obs _ _ ho
  exact⟨b,c,arr,hr,hh,h1,h2,h3,h4,cX (λ_ _=>rfl) (λb hb=>hR.ok.gf b hb) rfl _ _ h5,h6,λhm=>by cases hm⟩
 rw[b7 _ _ e] at hl;exact hR.obs l x hl
end
def dCs:List C->Option (List D)
 |[]=>some []
 | .d _ d::r=>(dCs r).map (d:: ·)
 |_=>none
def tAV:List T->Option (List AV)
 |[]=>some []
 | .v (.agg cs)::r=>(dCs cs).bind λds=>(tAV r).map (.agg ds:: ·)
 | .v (.c (.d _ d))::r=>(tAV r).map (.c d:: ·)
 |_=>none
theorem TG {E:Env} {w:World} {F:Nat->Prop} (hH:∀g,E.H g=F):∀{cs:List C} {ds:List D} {us:Lae},dCs cs=some ds->DV w F ds us->CV E w cs us
 |[],ds,us,h,hd=>by
  cases h
  cases us with
  |nil=>trivial
  |cons u us=>exact hd.elim
 | .d g d::r,ds,us,h,hd=>by
  cases e:dCs r with
  |none=>simp[dCs,e] at h
  |some x=>
   simp[dCs,e] at h;subst h
   cases us with
   |nil=>exact hd.elim
   |cons u us=>exact⟨by show rdD w (E.H g) d u;rw[hH];exact hd.1,TG hH e hd.2⟩
theorem Ov {E:Env} {w:World} {F:Nat->Prop} (hH:∀g,E.H g=F):∀{ts:List T} {as:List AV} {us:Lae},tAV ts=some as->AR w F as us->TV E w ts us
 |[],as,us,h,hd=>by
  cases h
  cases us with
  |nil=>trivial
  |cons u us=>exact hd.elim
 | .v (.agg cs)::r,as,us,h,hd=>by
  cases e1:dCs cs with
  |none=>simp[tAV,e1] at h
  |some ds=>
   cases e2:tAV r with
   |none=>simp[tAV,e1,e2] at h
   |some x=>
    simp[tAV,e1,e2] at h;subst h
    cases us with
    |nil=>exact hd.elim
    |cons u us=>
     obtain⟨⟨arr,hu,hv⟩,h2⟩:=hd
     exact⟨⟨arr,hu,TG hH e1 hv⟩,Ov hH e2 h2⟩
 | .v (.c (.d g d))::r,as,us,h,hd=>by
  cases e2:tAV r with
  |none=>simp[tAV,e2] at h
  |some x=>
   simp[tAV,e2] at h;subst h
   cases us with
   |nil=>exact hd.elim
   |cons u us=>exact⟨by show rdD w (E.H g) d u;rw[hH];exact hd.1,Ov hH e2 hd.2⟩
theorem FnV.pure {args:List T} {as:List AV} {r:Bool} (h:FnV P f [] args [] (.v (.c (.d false (.b r)))) []) (ha:tAV args=some as:=by exact rfl):Fn P f as [.c (.d (.b r))]:=by
 refine⟨h.enters,λF w vals hF hT hA=>?_⟩
 have hI:VIn {E0 0 0 F with r:=λ_=>none,G:=F} w:=⟨hF,λ_ h=>h,λo b c h=>(by cases h),λo o' b c c' h=>(by cases h),λ_ _ h=>h,λ_ h=>h⟩
 refine(h.calls {E0 0 0 F with r:=λ_=>none,G:=F} w vals hI hT (λk hk o c h=>by cases h) (λl x h=>by cases h) (Ov (λg=>by cases g<;>rfl) ha hA)).mono ?_
 rintro en w' ⟨v,E',hen,vo,hv,_,_⟩
 refine⟨v,λ_=>False,[],hen,⟨vo.past.os,vo.past.tape,vo.past.output,vo.past.size,λk hk hW=>vo.past.block k hk (λ⟨o,c',ho⟩=>by cases ho)⟩,λb h=>h.elim,⟨rfl,?_⟩,by simp⟩
 have:rdD w' (E'.H false) (.b r) v:=hv
 simpa [rdD] using this
theorem wkz (hr:R) (h:R->G:=by intro h;(repeat' (first|refine IT ?_|refine sF ?_|refine DF ?_|refine vT ?_|refine uL rfl ?_|refine sC rfl ?_|refine IR ?_|refine Ej ?_|refine tn ?_|refine tr ?_|refine B4 ?_|refine Ei ?_|refine te ?_|refine bx rfl ?_|refine bo rfl ?_|refine bn ?_|refine br ?_|refine Nn (by kernel_rfl) rfl ?_|((first|apply tH rfl|apply IS rfl rfl rfl rfl|apply jP rfl|apply O1 rfl rfl rfl rfl); · first|exact op rfl rfl rfl rfl|exact opa rfl rfl rfl rfl|exact oq rfl rfl rfl|exact oqa rfl rfl rfl|exact fp rfl rfl rfl|exact fq rfl rfl rfl|exact fe rfl rfl rfl|exact io rfl rfl rfl rfl|exact se rfl rfl rfl|exact bq rfl rfl rfl|exact qe rfl rfl rfl rfl rfl rfl rfl|exact sn rfl rfl rfl|exact bne rfl rfl rfl|exact qn rfl rfl rfl rfl rfl rfl rfl|exact mv1 rfl rfl|exact mv2 rfl rfl|exact mv3 rfl rfl|exact as1 rfl rfl|exact as2 rfl rfl|exact as3 rfl rfl|exact ldT rfl rfl|exact ld rfl rfl|exact lw rfl rfl|exact lwn rfl rfl|exact ls rfl rfl|exact ln rfl rfl|exact ZY rfl rfl|exact lz rfl rfl|exact fz rfl rfl rfl|exact oz rfl rfl rfl|exact oza rfl rfl rfl|exact un rfl rfl|exact ng rfl rfl|exact ba rfl rfl rfl|exact bc rfl rfl rfl rfl|exact al rfl rfl|exact pk1 rfl rfl rfl|exact pk0 rfl rfl rfl|exact ex rfl rfl rfl|exact nc rfl rfl|exact fv rfl rfl rfl|exact fva rfl rfl rfl|exact bd rfl rfl rfl|exact bs rfl rfl rfl rfl rfl rfl rfl rfl|exact cv rfl rfl|exact bt1 rfl rfl|exact ib rfl rfl rfl rfl)|(apply eZ rfl; · first|exact sp rfl rfl rfl rfl rfl rfl rfl|exact stz rfl rfl rfl rfl)|refine gs rfl rfl rfl rfl rfl rfl ?_|refine zgs rfl rfl rfl rfl rfl rfl rfl ?_|fail));exact h):G:=h hr
theorem wkb (hr:R) (h:R->G:=by intro h;(repeat' (first|refine IT ?_|refine sF ?_|refine DF ?_|refine vT ?_|refine uL rfl ?_|refine sC rfl ?_|refine IR ?_|refine Ej ?_|refine tn ?_|refine tr ?_|refine B4 ?_|refine Ei ?_|refine te ?_|refine bx rfl ?_|refine bo rfl ?_|refine bn ?_|refine br ?_|refine Nn (by kernel_rfl) rfl ?_|((first|apply tH rfl|apply IS rfl rfl rfl rfl|apply jP rfl|apply O1 rfl rfl rfl rfl); · first|exact op rfl rfl rfl rfl|exact opa rfl rfl rfl rfl|exact oq rfl rfl rfl|exact oqa rfl rfl rfl|exact fp rfl rfl rfl|exact fq rfl rfl rfl|exact fe rfl rfl rfl|exact io rfl rfl rfl rfl|exact se rfl rfl rfl|exact bq rfl rfl rfl|exact qe rfl rfl rfl rfl rfl rfl rfl|exact sn rfl rfl rfl|exact bne rfl rfl rfl|exact qn rfl rfl rfl rfl rfl rfl rfl|exact mv1 rfl rfl|exact mv2 rfl rfl|exact mv3 rfl rfl|exact as1 rfl rfl|exact as2 rfl rfl|exact as3 rfl rfl|exact ldT rfl rfl|exact ld rfl rfl|exact lw rfl rfl|exact lwn rfl rfl|exact ls rfl rfl|exact ln rfl rfl|exact ZY rfl rfl|exact lz rfl rfl|exact fz rfl rfl rfl|exact oz rfl rfl rfl|exact oza rfl rfl rfl|exact un rfl rfl|exact ng rfl rfl|exact ba rfl rfl rfl|exact bc rfl rfl rfl rfl|exact al rfl rfl|exact pk1 rfl rfl rfl|exact pk0 rfl rfl rfl|exact ex rfl rfl rfl|exact nc rfl rfl|exact fv rfl rfl rfl|exact fva rfl rfl rfl|exact bd rfl rfl rfl|exact cv rfl rfl|exact bt1 rfl rfl|exact ib rfl rfl rfl rfl)|(apply eZ rfl; · first|exact sp rfl rfl rfl rfl rfl rfl rfl|exact stz rfl rfl rfl rfl)|refine gs rfl rfl rfl rfl rfl rfl ?_|refine zgs rfl rfl rfl rfl rfl rfl rfl ?_|fail));exact h):G:=h hr
inductive F where
 |s (d:D)
 |l (t z:Nat) (e:Lad) (n:Nat)
inductive LM where
 |t
 |f
 |z
 |w (o:Nat)
 |n (o:Nat)
def LM.c:LM->Lad->Nat->C
 | .t,e,_=>.d true (.l e)
 | .f,e,_=>.d false (.l e)
 | .z,_,_=>.nil
 | .w o,_,k=>.w o k
 | .n o,_,k=>.wn o k
def kM:List LM->List F->List C
 |ms,.s d::r=>.d false d::kM ms r
 |m::ms,.l _ _ e n::r=>m.c e n::kM ms r
 |_,_=>[]
def LM.o:LM->Nat->Nat->Lad->Laa->Laa
 | .w o,a,b,e,r=>(o,.row a b e true true)::r
 | .n o,a,b,e,r=>(o,.rown a b e true)::r
 |_,_,_,_,r=>r
def rM:List LM->List F->Laa->Laa
 |ms,.s _::r,q=>rM ms r q
 |m::ms,.l t z e _::r,q=>m.o t z e (rM ms r q)
 |_,_,q=>q
def oM (ms:List LM) (o ty:Nat) (x:List F):Laa:=rM ms x [(o,.var ty (kM ms x))]
inductive RM where
 |d
 |o
 |z
def RM.c:RM->Nat->Nat->Lad->Nat->RC
 | .d,_,_,e,_=>.d (.l e)
 | .o,a,b,e,n=>.own a b e n
 | .z,_,_,_,_=>.nil
def qM:List RM->List F->List RC
 |ms,.s d::r=>.d d::qM ms r
 |m::ms,.l t z e n::r=>m.c t z e n::qM ms r
 |_,_=>[]
abbrev tP (o:Nat):T:=.v (.c (.p o 0))
def m0:Lac:=[(190,190),(191,191),(192,192),(193,193),(200,200)]
theorem wJ (h:R->G:=by(intro h;(repeat' (first|refine IT ?_|refine sF ?_|refine DF ?_|refine vT ?_|refine uL rfl ?_|refine sC rfl ?_|refine IR ?_|refine Ej ?_|refine tn ?_|refine tr ?_|refine B4 ?_|refine Ei ?_|refine te ?_|refine bx rfl ?_|refine bo rfl ?_|refine bn ?_|refine br ?_|refine Nn (by kernel_rfl) rfl ?_|refine ZA ⟨by kernel_rfl,?_⟩|((first|apply tH rfl|apply IS rfl rfl rfl rfl|apply jP rfl|apply O1 rfl rfl rfl rfl|apply dr_n rfl|apply YM rfl rfl rfl rfl); · first|exact op rfl rfl rfl rfl|exact opa rfl rfl rfl rfl|exact oq rfl rfl rfl|exact oqa rfl rfl rfl|exact fp rfl rfl rfl|exact fq rfl rfl rfl|exact fe rfl rfl rfl|exact iqT rfl rfl rfl rfl|exact iqF rfl rfl rfl rfl|exact io rfl rfl rfl rfl|exact se rfl rfl rfl|exact bq rfl rfl rfl|exact qe rfl rfl rfl rfl rfl rfl rfl|exact sn rfl rfl rfl|exact bne rfl rfl rfl|exact qn rfl rfl rfl rfl rfl rfl rfl|exact mv1 rfl rfl|exact mv2 rfl rfl|exact mv3 rfl rfl|exact as1 rfl rfl|exact as2 rfl rfl|exact as3 rfl rfl|exact ldT rfl rfl|exact ld rfl rfl|exact lw rfl rfl|exact lwn rfl rfl|exact ls rfl rfl|exact ln rfl rfl|exact ZY rfl rfl|exact lz rfl rfl|exact fz rfl rfl rfl|exact oz rfl rfl rfl|exact oza rfl rfl rfl|exact un rfl rfl|exact ng rfl rfl|exact ba rfl rfl rfl|exact bc rfl rfl rfl rfl|exact al rfl rfl|exact pk1 rfl rfl rfl|exact pk0 rfl rfl rfl|exact ex rfl rfl rfl|exact nc rfl rfl|exact fv rfl rfl rfl|exact fva rfl rfl rfl|exact bd rfl rfl rfl|exact bs rfl rfl rfl rfl rfl rfl rfl rfl|exact cv rfl rfl|exact bt1 rfl rfl|exact ib rfl rfl rfl rfl)|(apply eZ rfl; · first|exact sp rfl rfl rfl rfl rfl rfl rfl|exact stz rfl rfl rfl rfl)|refine gs rfl rfl rfl rfl rfl rfl ?_|refine zgs rfl rfl rfl rfl rfl rfl rfl ?_|refine dgs rfl rfl rfl rfl rfl rfl rfl ?_|fail));exact h)):R->G:=h
theorem wI (hr:R) (h:R->G:=by exact wJ):G:=h hr
theorem wo {st':St} (h1:LeS st.sl st'.nx st'.sl:=by repeat (first|exact trivial|refine⟨rfl,rfl,?_⟩|refine⟨wn rfl (by first|rfl|simp),rfl,?_⟩|refine⟨wnn rfl (by first|rfl|simp),rfl,?_⟩)) (h2:LeO st.ob st'.nx st'.ob:=by repeat (first|exact trivial|refine⟨rfl,⟨rfl,rfl⟩,?_⟩)):dS N st st':=eV h1 h2
section
variable {P:Program} {N:Nat} {st st':St} {AQ:Exit->St->Prop} {ops:Array Oper} {l:List Oper} {o:Oper} {x:Inf} {K:St->Prop} {R:Prop}
theorem nA (h:NS P N o st st' x) (hr:R) (hg:o.guard=none:=by exact rfl) (w:R->AWR P N ops l st' K:=by exact wJ):AWR P N ops (o::l) st K:=tH hg h (w hr)
theorem nG (h:NS P N o st st' x) (hr:R) (hg:o.guard=some (j,b):=by exact rfl) (hj:(ops[j]?).bind (·.dst)=some dj:=by exact rfl) (hdj:nlt dj N=true:=by exact rfl) (hb:gt st.sl dj=tB b:=by exact rfl) (w:R->AWR P N ops l st' K:=by exact wJ):AWR P N ops (o::l) st K:=IS hg hj hdj hb h (w hr)
theorem sA (h:AWO P N o st st') (hr:R) (hg:o.guard=none:=by exact rfl) (w:R->AWR P N ops l st' K:=by exact wJ):AWR P N ops (o::l) st K:=eZ hg h (w hr)
theorem sG (h:AWO P N o st st') (hr:R) (hg:o.guard=some (j,b):=by exact rfl) (hj:(ops[j]?).bind (·.dst)=some dj:=by exact rfl) (hdj:nlt dj N=true:=by exact rfl) (hb:gt st.sl dj=tB b:=by exact rfl) (w:R->AWR P N ops l st' K:=by exact wJ):AWR P N ops (o::l) st K:=mL hg hj (dr hdj) hb h (w hr)
theorem cC {c:Operand} {Y:Code} {p q r:Option α} {R0:Prop} (H:(bif b then p else q)=r) (h1:p=r->R1) (h0:q=r->R0) (hb:opT st.sl c=tB b:=by exact rfl) (w1:R1->AWC P N X st AQ:=by exact wJ) (w0:R0->AWC P N Y st AQ:=by exact wJ):AWC P N (.cond c X Y) st AQ:=
 qm hb (λh=>w1 (h1 (bt h H))) (λh=>w0 (h0 (bf h H)))
theorem jA {R2:Prop} (M:St) [c:Clo N AQ] (h1:R1) (h2:R2) (w1:R1->AWC P N X st (uF (λs=>dS N s M) AQ):=by exact wJ) (w2:R2->AQ .normal M:=by exact wJ):AWC P N X st AQ:=uZ M (w1 h1) (w2 h2)
theorem jB {R2:Prop} (M:St) [c:Clo N AQ] (h1:R1) (h2:R2) (w1:R1->AWC P N X st (jO id (uF (λs=>dS N s M) AQ)):=by exact wJ) (w2:R2->AQ .normal M:=by exact wJ):AWC P N X st (jO id AQ):=sE M (w1 h1) (w2 h2)
theorem jR {R2:Prop} (M:St) [c:GG N K] (h1:R1) (h2:R2) (w1:R1->AWR P N ops l st (λs=>dS N s M):=by exact wJ) (w2:R2->K M:=by exact wJ):AWR P N ops l st K:=El M (w1 h1) (w2 h2)
theorem zI (is:List Nat) {ll:List Oper} {r:List (Nat×Oper)} (hr:R) (hm:P.follows .mixedOrders=true:=by exact Try.follows) (he:DL ll.toArray=true:=by kernel_rfl) (hc:Tw ll.length is=true:=by kernel_rfl) (ho:JT ll is=some r:=by exact rfl) (w:R->DZ P N ll.toArray r [] [] [] st st (λs=>AQ .normal s):=by exact wJ):AWC P N (.region id ll.toArray true) st AQ:=qS is hm he hc ho (w hr)
theorem dI {ll:List Oper} (hr:R) (hm:P.follows .mixedOrders=true:=by exact Try.follows) (hol:U3 st.nx st.ob=true:=by exact rfl) (w:R->DR P N ll.toArray ll [] st (λis t=>z7 ll.toArray is st.nx=true/\AQ .normal t):=by exact wJ):AWC P N (.region id ll.toArray true) st AQ:=Tp hm hol (w hr)
section
variable {KK:List Inf->St->Prop} {is:List Inf}
theorem dA (h:NS P N o st st' x) (hr:R) (hg:o.guard=none:=by exact rfl) (w:R->DR P N ops l (is++[x]) st' KK:=by exact wJ):DR P N ops (o::l) is st KK:=dr_n hg h (w hr)
theorem dG (h:NS P N o st st' x) (hr:R) (hg:o.guard=some (j,b):=by exact rfl) (hj:(ops[j]?).bind (·.dst)=some dj:=by exact rfl) (hdj:nlt dj N=true:=by exact rfl) (hb:gt st.sl dj=tB b:=by exact rfl) (w:R->DR P N ops l (is++[{x with needs:=(.tmp dj,tB b)::x.needs}]) st' KK:=by exact wJ):DR P N ops (o::l) is st KK:=YM hg hj hdj hb h (w hr)
end
section
variable {α:Type} {p q r:Option α} {R1 R0:Prop} {j:Nat} {dj:Tmp} {b c:Bool} {sl:Lab} {ob:Laa} {nx:Nat}
theorem gC (H:(bif c then p else q)=r) (h1:p=r->R1) (h0:q=r->R0) (hg:o.guard=some (j,b):=by exact rfl) (hj:(ops[j]?).bind (·.dst)=some dj:=by exact rfl) (hb:gt sl dj=tB c:=by exact rfl)
 (w1:R1->AWR P N ops (o::l) ⟨(dj,tB true)::sl,ob,nx⟩ K:=by exact wJ) (w0:R0->AWR P N ops (o::l) ⟨(dj,tB false)::sl,ob,nx⟩ K:=by exact wJ):AWR P N ops (o::l) ⟨sl,ob,nx⟩ K:=
 g2 hg hj hb (λh=>w1 (h1 (bt h H))) (λh=>w0 (h0 (bf h H)))
theorem dC {is:List Inf} {KK:List Inf->St->Prop} (H:(bif c then p else q)=r) (h1:p=r->R1) (h0:q=r->R0) (hg:o.guard=some (j,b):=by exact rfl) (hj:(ops[j]?).bind (·.dst)=some dj:=by exact rfl) (hb:gt sl dj=tB c:=by exact rfl)
 (w1:R1->DR P N ops (o::l) is ⟨(dj,tB true)::sl,ob,nx⟩ KK:=by exact wJ) (w0:R0->DR P N ops (o::l) is ⟨(dj,tB false)::sl,ob,nx⟩ KK:=by exact wJ):DR P N ops (o::l) is ⟨sl,ob,nx⟩ KK:=
 dg2 hg hj hb (λh=>w1 (h1 (bt h H))) (λh=>w0 (h0 (bf h H)))
end
section
variable {lz:List (Nat×Oper)} {dn seg:List Nat} {ys:List Inx} {base:St} {p:Nat} {y:Inx}
theorem zA (h:NS P N o st st' x) (hr:R) (hg:o.guard=none:=by exact rfl) (w:R->DZ P N ops lz dn (seg++[p]) (ys++[⟨x,[],none⟩]) base st' K:=by exact wJ):DZ P N ops ((p,o)::lz) dn seg ys base st K:=jP hg h (w hr)
theorem zG (h:NS P N o st st' x) (hr:R) (hg:o.guard=some (j,b):=by exact rfl) (hj:(ops[j]?).bind (·.dst)=some dj:=by exact rfl) (hdj:nlt dj N=true:=by exact rfl) (hb:gt st.sl dj=tB b:=by exact rfl)
 (w:R->DZ P N ops lz dn (seg++[p]) (ys++[⟨{x with needs:=(.tmp dj,tB b)::x.needs},[],none⟩]) base st' K:=by exact wJ):DZ P N ops ((p,o)::lz) dn seg ys base st K:=O1 hg hj hdj hb h (w hr)
theorem wA (h:NX P N o st st' y) (hr:R) (hg:o.guard=none:=by exact rfl) (w:R->DZ P N ops lz dn (seg++[p]) (ys++[y]) base st' K:=by exact wJ):DZ P N ops ((p,o)::lz) dn seg ys base st K:=Cc hg h (w hr)
theorem zB {st0 st1 st2:St} {dn':List Nat} (hw:dS N st st0) (h:BO P N ops o st0 st1) (hw2:dS N st1 st2) (hr:R) (hs:BG ops dn seg ys=true:=by kernel_rfl) (hkl:kls ys=[]:=by exact rfl) (hb:KT ops (seg++dn) p=true:=by kernel_rfl) (hlo:p::(seg++dn)=dn':=by exact rfl) (w:R->DZ P N ops lz dn' [] [] st2 st2 K:=by exact wJ):DZ P N ops ((p,o)::lz) dn seg ys base st K:=Cb hs hkl hb hw h hw2 hlo (w hr)
theorem zC {a q r:Option α} {R0:Prop} {c:Bool} {ob:Laa} (H:(bif c then a else q)=r) (h1:a=r->R1) (h0:q=r->R0) (hg:o.guard=some (j,b):=by exact rfl) (hj:(ops[j]?).bind (·.dst)=some dj:=by exact rfl) (hb:gt sl dj=tB c:=by exact rfl)
 (w1:R1->DZ P N ops ((p,o)::lz) dn seg ys base ⟨(dj,tB true)::sl,ob,nx⟩ K:=by exact wJ) (w0:R0->DZ P N ops ((p,o)::lz) dn seg ys base ⟨(dj,tB false)::sl,ob,nx⟩ K:=by exact wJ):DZ P N ops ((p,o)::lz) dn seg ys base ⟨sl,ob,nx⟩ K:=
 zg2 hg hj hb (λh=>w1 (h1 (bt h H))) (λh=>w0 (h0 (bf h H)))
end
theorem aW (hw:dS N st st') (hr:R) (w:R->AWR P N ops l st' K:=by exact wJ):AWR P N ops l st K:=bG hw (w hr)
theorem iT {c:Code} {σ:Type} {step:σ->Option (ct σ ρ)} {x0:σ} {r:ρ} (H:iter step n x0=some r) (S:σ->St) (round:∀x o,step x=some o->AWC P N c (S x) (gp N S r o AQ)) (h0:dS N st (S x0):=by exact wo):AWC P N (.loop c) st AQ:=sD S H h0 round
end
theorem wB {ob:Laa} (o:Nat) (k:Nat) (hs:zv o k sl=some sl':=by exact rfl) (ho:Kz o k ob=some ob':=by exact rfl) (he:Eqs (Sr o k sl):=by repeat (first|exact trivial|refine⟨by first|rfl|simp,?_⟩)) (he2:Eqs (OF o k ob):=by repeat (first|exact trivial|refine⟨by first|rfl|simp,?_⟩)):dS N ⟨sl,ob,nx⟩ ⟨sl',ob',nx⟩:=vO hs ho he he2
theorem wS {ob:Laa} (p q:Nat) (hp:rsv p=false:=by exact rfl) (hq:rsv q=false:=by exact rfl) (hpn:nlt p nx=true:=by exact rfl) (hqn:nlt q nx=true:=by exact rfl):dS N ⟨sl,ob,nx⟩ ⟨swS p q sl,swO p q ob,nx⟩:=MT hp hq hpn hqn
theorem fI     {c:Code} {args:List AV} {rs:List ResultVar}    (hf:P.funcs[f]?=some fn) (hN:fn.ntmps=N) (hr:R) (hb:fn.body=some c:=by exact rfl) (hnm:(fn.name== "runtime.NumGoroutine")=false:=by kernel_rfl) (hrs:fn.results.toList=rs:=by exact rfl)
 (ha:aaz args.length N=true:=by exact rfl) (hs:KR 0 args=some sl0:=by exact rfl) (w:R->AWC P N c ⟨sl0,[],0⟩ (zV N P rs res):=by exact wJ):Fn P f args res:=YR hf hb hnm hN hrs ha hs (w hr)
theorem fW    {c:Code}  {x y:Ob} {args:List T} {rs:List ResultVar}    (hf:P.funcs[f]?=some fn) (hN:fn.ntmps=N) (hr:R) (hb:fn.body=some c:=by exact rfl) (hnm:(fn.name== "runtime.NumGoroutine")=false:=by kernel_rfl) (hrs:fn.results.toList=rs:=by exact rfl)
 (ha:aaz args.length N=true:=by exact rfl) (hfx:x.free=true:=by exact rfl) (hfy:y.free=true:=by exact rfl) (hs:xB 0 args=sl0:=by exact rfl) (w:R->AWC P N c ⟨sl0,[(200,x)],210⟩ (KI N P rs res y):=by exact wJ):FnW P f x args y res:=ZH hf hb hnm hN hrs ha hfx hfy hs (w hr)
theorem fV    {c:Code}  {xs ys:Laa} {args:List T} {rs:List ResultVar}     (hf:P.funcs[f]?=some fn) (hN:fn.ntmps=N) (hr:R) (hb:fn.body=some c:=by exact rfl) (hnm:(fn.name== "runtime.NumGoroutine")=false:=by kernel_rfl) (hrs:fn.results.toList=rs:=by exact rfl)
 (ha:aaz args.length N=true:=by exact rfl) (hs:xB 0 args=sl0:=by exact rfl) (w:R->AWC P N c ⟨sl0,xs,210⟩ (xu N P rs ys out nw):=by exact wJ):FnV P f xs args ys out nw:=T8 hf hb hnm hN hrs ha hs (w hr)
theorem aa {β:Type} {p:Option α} {f:α->Option β} {y:β} (H:p.bind f=some y) (k:∀x,p=some x->f x=some y->G):G:=by
 obtain⟨x,h1,h2⟩:=ob H
 exact k x h1 h2
theorem ai (H:p) (h:p->G:=by(intro H;cases H;exact wo)):G:=h H
theorem ao (H:p) (h:p->G:=by(intro H;cases H;exact bX)):G:=h H
theorem aN (H:p) (h:p->G:=by(intro H;cases H;refine tD ?_;exact wo)):G:=h H
theorem aE (H:p) (h:p->G:=by(intro H;cases H;refine Fg (λhq=>?_);cases hq;refine wI ?_;exact wo)):G:=h H
theorem aR {AQ:Exit->St->Prop} {σ:Type} {m:Option ρ} {o:ct σ ρ} {S:σ->St} {e:Exit} {s:St} (H:dn m=some o) (k:m=some r->R) (he:∀r',(r'=r->AQ e s)->gp N S r (.done r') AQ e s:=by(intro r' h;first|exact Fg h|exact iq_r h)) (w:R->AQ e s:=by exact wJ):gp N S r o AQ e s:=by
 obtain⟨r0,Hd,rfl⟩:=dnE H
 exact he r0 λhq=>w (k (Hd.trans (congrArg some hq)))
theorem aQ (H:p) (h:p->G:=by(intro H;refine aR H λH=>?_;exact ao H)):G:=h H
theorem ad (hr:R) (h:R->G:=by(intro h;(try dsimp only);revert h;exact wJ)):G:=h hr
theorem az (H:p) (h:p->G:=by(intro H;repeat' (first|(refine gC H ?_ ?_<;>intro H)|(refine cC H ?_ ?_<;>intro H)|exact ai H))):G:=h H
theorem ay (H:p) (h:p->G:=by(intro H;repeat' (first|(refine cC H ?_ ?_<;>intro H)|(refine gC H ?_ ?_<;>intro H)|exact ao H))):G:=h H
theorem au:(∀{α β:Type} (a:α) (f:α->Option β),Option.bind (some a) f=f a)/\(∀{α:Type} (a b:α),cond true a b=a)/\(∀{α:Type} (a b:α),cond false a b=b)/\(!true)=false/\(!false)=true:=⟨λ_ _=>rfl,λ_ _=>rfl,λ_ _=>rfl,rfl,rfl⟩
class FC (P:Program) (p:Prop) (f:outParam FuncId) (as:outParam (List AV)) (rs:outParam (List RV)):Prop where
 h:p->Fn P f as rs
def T.isAny:T->Bool
 | .any=>true
 |_=>false
theorem T.isAny_eq {t:T} (h:t.isAny=true):t= .any:=by cases t<;>simp_all [T.isAny]
def fS:List Nat->Lab->Lab
 |_,[]=>[]
 |ks,(k,t)::r=>bif mJ ks k then fS ks r else bif T.isAny t then fS (k::ks) r else(k,t)::fS (k::ks) r
def fO:List Nat->Laa->Laa
 |_,[]=>[]
 |ks,(k,x)::r=>bif mJ ks k then fO ks r else(k,x)::fO (k::ks) r
theorem YP {k:Nat}:∀{sl:Lab} {ks:List Nat},gt (fS ks sl) k=bif mJ ks k then .any else gt sl k
 |[],ks=>by simp[fS,gt]
 |(j,t)::r,ks=>by
  have ih:=λks=>YP (k:=k) (sl:=r) (ks:=ks)
  rw[fS]
  cases hj:mJ ks j with
  |true=>
   rw[cond_true,ih]
   by_cases h:j=k
   .subst h;rw[hj];rfl
   rw[di _ _ h]
  |false=>
   rw[cond_false]
   have hm:mJ (j::ks) k=(d0 j k||mJ ks k):=by
    by_cases h:j=k<;>simp_all [mJ,nH]
   cases ha:t.isAny with
   |true=>
    rw[cond_true,ih,hm]
    by_cases h:j=k
    .subst h;rw[hj,d4,T.isAny_eq ha];simp
    rw[di _ _ h,nH h];rfl
   |false=>
    rw[cond_false]
    by_cases h:j=k
    .subst h;rw[hj,cond_false,d4,d4]
    rw[di _ _ h,di _ _ h,ih,hm,nH h];rfl
theorem YO {k:Nat}:∀{ob:Laa} {ks:List Nat},go (fO ks ob) k=bif mJ ks k then none else go ob k
 |[],ks=>by simp[fO,go]
 |(j,x)::r,ks=>by
  have ih:=λks=>YO (k:=k) (ob:=r) (ks:=ks)
  rw[fO]
  cases hj:mJ ks j with
  |true=>
   rw[cond_true,ih]
   by_cases h:j=k
   .subst h;rw[hj];rfl
   rw[b7 _ _ h]
  |false=>
   rw[cond_false]
   have hm:mJ (j::ks) k=(d0 j k||mJ ks k):=by
    by_cases h:j=k<;>simp_all [mJ,nH]
   by_cases h:j=k
   .subst h;rw[hj,cond_false,cU,cU]
   rw[b7 _ _ h,b7 _ _ h,ih,hm,nH h];rfl
theorem weak_f {s m:St} (h:dS N s ⟨fS [] m.sl,fO [] m.ob,m.nx⟩):dS N s m:=λcx E a w hR=>by
 obtain⟨E',h⟩:=h cx E a w hR
 refine⟨E',h.ok,h.dom,λo ob ho=>h.obs o ob ?_,λk=>?_,h.dfr,h.size,h.td⟩
 .show go (fO [] m.ob) o=some ob
  rw[YO];exact ho
 have:=h.sl k
 rw[show gt (fS [] m.sl) k=gt m.sl k from YP] at this
 exact this
theorem wf {st':St} (h1:LeS st.sl st'.nx (fS [] st'.sl):=by repeat (first|exact trivial|refine⟨rfl,rfl,?_⟩|refine⟨wn rfl (by first|rfl|simp),rfl,?_⟩|refine⟨wnn rfl (by first|rfl|simp),rfl,?_⟩)) (h2:LeO st.ob st'.nx (fO [] st'.ob):=by repeat (first|exact trivial|refine⟨rfl,⟨rfl,rfl⟩,?_⟩)):dS N st st':=weak_f (eV h1 h2)
abbrev FS (α:Type):=α->Lab->Laa->Nat->St
structure HJ (k:Nat) {α:Type} (F:FS α):Prop
structure HC (k:Nat) {α:Type} (F:FS α):Prop
structure HB (k:Nat) {α:Type} (F:FS α):Prop
structure HL (k:Nat) {α:Type} (F:FS α):Prop
section
variable {P:Program} {N:Nat} {ops:Array Oper} {l:List Oper} {o:Oper} {sl:Lab} {ob:Laa} {nx:Nat} {K:St->Prop} {AQ:Exit->St->Prop} {α β:Type} {p:Option α} {f:α->Option β} {y:β} {F:FS α}
theorem caF {d:Tmp} {ps:String} {af:Array Edge} {gd:Option (Nat×Bool)} {f:FuncId} {args:List Operand} {tys:Array TypeId} {ts:List T} {avs:List AV} {eqs:Lac} {p:Prop} (q:p) [i:FC P p f avs res]
 (ht:Bt sl args=some ts:=by exact rfl) (hp:vl ob (LH ts)=some nob:=by exact rfl) (ha:AD nob ts=some (avs,eqs):=by exact rfl) (he:Eqs eqs:=by repeat (first|exact trivial|refine⟨by first|rfl|exact lm _|simp,?_⟩)) (hi:Fe nx res=some (out,nw,n):=by exact rfl) (hw:LU nx nw n=true:=by exact rfl) (hN:nlt d N=true:=by exact rfl) (hob:apO nw ob=some ob':=by exact rfl):
 NS P N ⟨some d,.call ⟨.value (.func f),args.toArray,tys⟩,ty,ps,af,gd⟩ ⟨sl,ob,nx⟩ ⟨(d,out)::sl,ob',n⟩ ⟨d,args.zip ts,nob,out,nw⟩:=ca ht hp ha (i.h q) he hi hw hN hob
theorem jr {d:Nat} (H:p.bind f=some y) (hg:o.guard=some (j,b)) (hj:(ops[j]?).bind (·.dst)=some d) (J:HJ d F) [c:GG N K]
 (w1:∀v,p=some v->AWR P N ops (o::l) ⟨sl,ob,nx⟩ (λs=>dS N s (F v sl ob nx))) (w2:∀v,f v=some y->K (F v sl ob nx)):AWR P N ops (o::l) ⟨sl,ob,nx⟩ K:=by
 obtain⟨v,h1,h2⟩:=abJ.1 H
 exact El _ (w1 v h1) (w2 v h2)
theorem jd {ops':Array Oper} {is:List Inf} {mx d:Nat} (H:p.bind f=some y) (hg:o.guard=some (j,b)) (hj:(ops[j]?).bind (·.dst)=some d) (J:HJ d F) [c:GG N K]
 (w1:∀v,p=some v->DR P N ops (o::l) is ⟨sl,ob,nx⟩ (λis t=>z7 ops' is mx=true/\dS N t (F v sl ob nx))) (w2:∀v,f v=some y->K (F v sl ob nx)):DR P N ops (o::l) is ⟨sl,ob,nx⟩ (λis t=>z7 ops' is mx=true/\K t):=by
 obtain⟨v,h1,h2⟩:=abJ.1 H
 exact yO _ (w1 v h1) (w2 v h2)
theorem jz {lz:List (Nat×Oper)} {dn seg:List Nat} {ys:List Inx} {base:St} {d:Nat} (H:p.bind f=some y) (hg:o.guard=some (j,b)) (hj:(ops[j]?).bind (·.dst)=some d) (J:HJ d F) [c:GG N K]
 (w1:∀v,p=some v->DZ P N ops ((q,o)::lz) dn seg ys base ⟨sl,ob,nx⟩ (λs=>dS N s (F v sl ob nx))) (w2:∀v,f v=some y->K (F v sl ob nx)):DZ P N ops ((q,o)::lz) dn seg ys base ⟨sl,ob,nx⟩ K:=by
 obtain⟨v,h1,h2⟩:=abJ.1 H
 exact Xc _ (w1 v h1) (w2 v h2)
theorem jc {Y:Code} (H:p.bind f=some y) (J:HC k F) [c:Clo N AQ]
 (w1:∀v,p=some v->AWC P N (.cond (.tmp k) X Y) ⟨sl,ob,nx⟩ (uF (λs=>dS N s (F v sl ob nx)) AQ)) (w2:∀v,f v=some y->AQ .normal (F v sl ob nx)):AWC P N (.cond (.tmp k) X Y) ⟨sl,ob,nx⟩ AQ:=by
 obtain⟨v,h1,h2⟩:=abJ.1 H
 exact uZ _ (w1 v h1) (w2 v h2)
theorem jb (H:p.bind f=some y) (J:HB id F) [c:Clo N AQ]
 (w1:∀v,p=some v->AWC P N X ⟨sl,ob,nx⟩ (jO id (uF (λs=>dS N s (F v sl ob nx)) AQ))) (w2:∀v,f v=some y->AQ .normal (F v sl ob nx)):AWC P N X ⟨sl,ob,nx⟩ (jO id AQ):=by
 obtain⟨v,h1,h2⟩:=abJ.1 H
 exact sE _ (w1 v h1) (w2 v h2)
theorem il {c:Code} {step:α->Option (ct α ρ)} {x0:α} (H:iter step n x0=some r) (J:HL id F) (h0:dS N ⟨sl,ob,nx⟩ (F x0 sl ob nx))
 (round:∀x o,step x=some o->AWC P N c (F x sl ob nx) (gp N (λx=>F x sl ob nx) r o (jO id AQ))):AWC P N (.loop c) ⟨sl,ob,nx⟩ (jO id AQ):=sD _ H h0 round
theorem are {σ:Type} {m:Option ρ} {o:ct σ ρ} {S:σ->St} {s:St} (H:dn m=some o) (w:m=some r->AQ (.exit n) s):gp N S r o AQ (.exit n) s:=by
 obtain⟨r0,Hd,rfl⟩:=dnE H
 exact Fg λhq=>w (Hd.trans (congrArg some hq))
theorem arr {σ:Type} {m:Option ρ} {o:ct σ ρ} {S:σ->St} {s:St} (H:dn m=some o) (w:m=some r->AQ .ret s):gp N S r o AQ .ret s:=by
 obtain⟨r0,Hd,rfl⟩:=dnE H
 exact iq_r λhq=>w (Hd.trans (congrArg some hq))
end
theorem zR {AQ:Exit->St->Prop} {ll:List Oper} {r:List (Nat×Oper)} (hr:R) (hm:P.follows .mixedOrders=true:=by exact Try.follows) (he:DL ll.toArray=true:=by kernel_rfl) (hc:Tw ll.length (f4 ll.length)=true:=by kernel_rfl) (ho:JT ll (f4 ll.length)=some r:=by exact rfl) (w:R->DZ P N ll.toArray r [] [] [] st st (λs=>AQ .normal s):=by exact wJ):AWC P N (.region id ll.toArray true) st AQ:=qS _ hm he hc ho (w hr)
theorem sgd {a b:α} (H:some a=some b) (k:G):G:=k
section
variable {P:Program} {N:Nat} {d:Tmp} {ty:TypeId} {ps:String} {af:Array Edge} {gd:Option (Nat×Bool)} {x y:Operand} {sl:Lab} {ob:Laa} {nx:Nat} {α:Type} {enc:α->List D}
theorem xdF {g':Bool} {kd:IntKind} {xs:List α} {i:Int} {a:α} (H:ix xs i=some a) [eB P t e sz by_] (hx:opT sl x= .v (.c (.d g (.l (xs.map enc)))):=by exact rfl) (hy:opT sl y= .v (.c (.d g' (.i kd i))):=by exact rfl) (hN:nlt d N=true:=by exact rfl) (henc:∀a,(enc a).length=sz:=by exact λ_=>rfl):
 NS0 P N ⟨some d,.indexAddr t x y,ty,ps,af,gd⟩ sl ob nx d (.v (.c (.q g (enc a) 0))) ⟨d,[(x,.v (.c (.d g (.l (xs.map enc))))),(y,.v (.c (.d g' (.i kd i))))],[],.v (.c (.q g (enc a) 0)),[]⟩:=xdT H henc hx hy hN
theorem oeF {o:Nat} {i:Int} {rt:TypeId} {ys:List α} {a:α} {c:C} [jN P t] (hx:opT sl x= .v (.c (.e o sz i.toNat j)):=by exact rfl) (ho:go ob o=some (.row rt sz (ys.map enc) g m):=by exact rfl) (hN:nlt d N=true:=by exact rfl) (H:ix ys i=some a:=by assumption) (hc:ld1 g j (enc a)=some c:=by exact rfl):
 NS0 P N ⟨some d,.load t x,ty,ps,af,gd⟩ sl ob nx d (.v (.c c)) ⟨d,[(x,.v (.c (.e o sz i.toNat j)))],[(o,.row rt sz (ys.map enc) g m)],.v (.c c),[]⟩:=oe hx ho hN (ez enc H) hc
theorem RB {o:Nat} {i:Int} {rt:TypeId} {ys:List α} {a:α} [hP P t n] (hx:opT sl x= .v (.c (.e o sz i.toNat j)):=by exact rfl) (ho:go ob o=some (.row rt sz (ys.map enc) g m):=by exact rfl) (hN:nlt d N=true:=by exact rfl) (H:ix ys i=some a:=by assumption) (hc:GV g j n (enc a)=some cs:=by exact rfl):
 NS0 P N ⟨some d,.load t x,ty,ps,af,gd⟩ sl ob nx d (.v (.agg cs)) ⟨d,[(x,.v (.c (.e o sz i.toNat j)))],[(o,.row rt sz (ys.map enc) g m)],.v (.agg cs),[]⟩:=oea hx ho hN (ez enc H) hc
end
theorem pE {β:Type} {G:α×β->Prop} (h:∀a b,G (a,b)):∀x,G x:=λ(a,b)=>h a b
theorem hJ (k:Nat) (F:FS α):HJ k F:=⟨⟩
theorem hC (k:Nat) (F:FS α):HC k F:=⟨⟩
theorem hB (k:Nat) (F:FS α):HB k F:=⟨⟩
theorem hL (k:Nat) (F:FS α):HL k F:=⟨⟩
theorem hb (d n:Nat):HJ d (λ(v:Bool) sl ob nx=>⟨(n,tB v)::(d,.any)::sl,ob,nx⟩):=⟨⟩
theorem hl (d n:Nat):HL d (λ(v:Int) sl ob nx=>⟨(n,tI v)::sl,ob,nx⟩):=⟨⟩
theorem hm (d n m:Nat):HL d (λ(v:Int×Int) sl ob nx=>⟨(n,tI v.1)::(m,tI v.2)::sl,ob,nx⟩):=⟨⟩
theorem he (d n m:Nat):HB d (λ(v:Int) sl ob nx=>⟨(n,tI v)::(m,.any)::sl,ob,nx⟩):=⟨⟩
theorem hc (d n:Nat):HC d (λ(v:Bool) sl ob nx=>⟨(n,tB v)::sl,ob,nx⟩):=⟨⟩
theorem hi (d n:Nat):HC d (λ(v:Int) sl ob nx=>⟨(n,tI v)::sl,ob,nx⟩):=⟨⟩
section
variable {P:Program} {N:Nat} {d:Tmp} {ty:TypeId} {ps:String} {af:Array Edge} {gd:Option (Nat×Bool)} {x y:Operand} {sl:Lab} {ob:Laa} {nx:Nat} {α:Type} {enc:α->List D} {ops:Array Oper} {lz:List (Nat×Oper)} {dn seg:List Nat} {ys:List Inx} {base:St} {p:Nat} {K:St->Prop} {R:Prop} {AQ:Exit->St->Prop}
theorem zS {o:Nat} {vt:TypeId} {cs' ns:List C} {v:V} [ht:TyN P t n] (hr:R) (hx:opT sl x= .v (.c (.p o k)):=by exact rfl) (hy:opT sl y= .v v:=by exact rfl) (ho:go ob o=some (.var vt cs):=by exact rfl) (hv:vcs v=some ns:=by exact rfl)
 (hn:d0 ns.length n=true:=by exact rfl) (hst:ns.all C.sto=true:=by exact rfl) (hs:uW k ns cs=some cs':=by exact rfl) (hq:aaz N (100000+p)=true:=by exact rfl) (w:R->DZ P N ops lz dn (seg++[p]) (ys++[⟨⟨100000+p,[(x,.v (.c (.p o k))),(y,.v v)],[(o,.var vt cs)],.any,[]⟩,[(o,.var vt cs')],none⟩]) base ⟨(100000+p,.any)::sl,(o,.var vt cs')::ob,nx⟩ K:=by exact wJ):
 DZ P N ops ((p,⟨none,.store t x y,ty,ps,af,none⟩)::lz) dn seg ys base ⟨sl,ob,nx⟩ K:=wA (spx (100000+p) hq hx hy ho hv hn hst hs) hr rfl w
theorem iZs (h:DZ P N ops ((p,⟨none,.store t x y,ty,ps,af,none⟩)::lz) dn seg ys base st K):DZ P N ops ((p,⟨none,.store t x y,ty,ps,af,none⟩)::lz) dn seg ys base st K:=h
theorem awoW {o:Oper} {a b c:St} (h:AWO P N o a b) (k:dS N b c):AWO P N o a c:=λcx E ac w hR=>Oper.wp_mono (λ_ _ ⟨E',h'⟩=>k cx E' _ _ h') (h cx E ac w hR)
theorem apF {o:Nat} {ys zs:List α} {gg:Bool} {c:C} (H:da by_ (ys++zs).length=true) [eB P t e sz by_] (hd:nlt d N=true:=by exact rfl)
 (hx:opT sl x= .v (.c (.w o n)):=by exact rfl) (ho:go ob o=some (.row e sz (ys.map enc) g true):=by exact rfl) (hy:opT sl y= .v (.c c):=by exact rfl) (hn:ys.length=n:=by first|rfl|simp) (hs:Src ob c (zs.map enc) gy:=by first|exact .d|exact .nil|exact .w rfl (by first|rfl|exact lm _|simp)|exact .wn rfl (by first|rfl|exact lm _|simp)) (henc:∀a,(enc a).length=sz:=by exact λ_=>rfl) (hk:oO o sl=some sl':=by exact rfl) (hkb:mC o ob=some ob':=by exact rfl) (hg:(g&&gy)=gg:=by exact rfl) (hrv:rsp o=false:=by exact rfl):
 AWO P N ⟨some d,.call ⟨.builtin .append,#[x,y],#[t,t]⟩,ty,ps,af,gd⟩ ⟨sl,ob,nx⟩ ⟨(d,.v (.c (.w o (ys++zs).length)))::sl',(o,.row e sz ((ys++zs).map enc) gg true)::ob',nx⟩:=apT H rfl henc hd hx hy hn hs ho hk hkb hg hrv
theorem apFf {o:Nat} {ys zs:List α} {gg:Bool} {c:C} (H:da by_ (ys++zs).length=true) [eB P t e sz by_] (hd:nlt d N=true:=by exact rfl)
 (hx:opT sl x= .v (.c (.w o n)):=by exact rfl) (ho:go ob o=some (.row e sz (ys.map enc) g true):=by exact rfl) (hy:opT sl y= .v (.c c):=by exact rfl) (hn:ys.length=n:=by first|rfl|simp) (hs:Src ob c (zs.map enc) gy:=by first|exact .d|exact .nil|exact .w rfl (by first|rfl|exact lm _|simp)|exact .wn rfl (by first|rfl|exact lm _|simp)) (henc:∀a,(enc a).length=sz:=by exact λ_=>rfl) (hf:∀a,vd (enc a)=true:=by exact λ_=>rfl) (hk:oO o sl=some sl':=by exact rfl) (hkb:mC o ob=some ob':=by exact rfl) (hrv:rsp o=false:=by exact rfl):
 AWO P N ⟨some d,.call ⟨.builtin .append,#[x,y],#[t,t]⟩,ty,ps,af,gd⟩ ⟨sl,ob,nx⟩ ⟨(d,.v (.c (.w o (ys++zs).length)))::sl',(o,.row e sz ((ys++zs).map enc) true true)::(o,.row e sz ((ys++zs).map enc) (g&&gy) true)::ob',nx⟩:=awoW (apT H rfl henc hd hx hy hn hs ho hk hkb rfl hrv) (gA (cU _ _ _) hf)
theorem QK {t:Nat} {g2:Bool} {xs:List α} {hi:Operand} (H:eS xs 0 h=true) [ht:eB P t e sz by_] (hx:opT sl x= .v (.c (.d g (.l (xs.map enc)))):=by exact rfl) (hh:opT sl hi= .v (.c (.d g2 (.i .i64 h))):=by exact rfl) (hN:nlt d N=true:=by exact rfl) (henc:∀a,(enc a).length=sz:=by exact λ_=>rfl):
 NS0 P N ⟨some d,.slice t x none (some hi) none,ty,ps,af,gd⟩ sl ob nx d (.v (.c (.d g (.l ((xs.take h.toNat).map enc))))) ⟨d,[(x,.v (.c (.d g (.l (xs.map enc))))),(hi,.v (.c (.d g2 (.i .i64 h))))],[],.v (.c (.d g (.l ((xs.take h.toNat).map enc)))),[]⟩:=WV H henc hx hh hN
theorem QL {t:Nat} {g2:Bool} {xs:List α} {l:Int} {lo:Operand} (H:eS xs l xs.length=true) [ht:eB P t e sz by_] (hx:opT sl x= .v (.c (.d g (.l (xs.map enc)))):=by exact rfl) (hl:opT sl lo= .v (.c (.d g2 (.i .i64 l))):=by exact rfl) (hN:nlt d N=true:=by exact rfl) (henc:∀a,(enc a).length=sz:=by exact λ_=>rfl):
 NS0 P N ⟨some d,.slice t x (some lo) none none,ty,ps,af,gd⟩ sl ob nx d (.v (.c (.d g (.l ((xs.drop l.toNat).map enc))))) ⟨d,[(x,.v (.c (.d g (.l (xs.map enc))))),(lo,.v (.c (.d g2 (.i .i64 l))))],[],.v (.c (.d g (.l ((xs.drop l.toNat).map enc)))),[]⟩:=QM H henc hx hl hN
structure HZ (k:Nat):Prop
theorem hz (k:Nat):HZ k:=⟨⟩
theorem iHZ {c:Array Oper} (J:HZ id) (h:AWC P N (.region id c true) st AQ):AWC P N (.region id c true) st AQ:=h
theorem aq {x:Option α} {r:α} (H:(bif b then x else none)=some r) (k:b=true->x=some r->G):G:=k (rq H).1 (rq H).2
end
section
variable {P:Program} {N:Nat} {ops:Array Oper} {l:List Oper} {o:Oper} {st:St} {K:St->Prop} {AQ:Exit->St->Prop} {is:List Inf} {KK:List Inf->St->Prop} {lz:List (Nat×Oper)} {dn seg:List Nat} {ys:List Inx} {base:St} {q j d:Nat} {b:Bool} {G:Prop}
theorem iR (h:AWR P N ops (o::l) st K):AWR P N ops (o::l) st K:=h
theorem iD (h:DR P N ops (o::l) is st KK):DR P N ops (o::l) is st KK:=h
theorem iZ (h:DZ P N ops ((q,o)::lz) dn seg ys base st K):DZ P N ops ((q,o)::lz) dn seg ys base st K:=h
theorem rD (hg:o.guard=some (j,b)) (hj:(ops[j]?).bind (·.dst)=some d) (hb:gt st.sl d=tB b) (h:AWR P N ops (o::l) st K):AWR P N ops (o::l) st K:=h
theorem dD (hg:o.guard=some (j,b)) (hj:(ops[j]?).bind (·.dst)=some d) (hb:gt st.sl d=tB b) (h:DR P N ops (o::l) is st KK):DR P N ops (o::l) is st KK:=h
theorem zD (hg:o.guard=some (j,b)) (hj:(ops[j]?).bind (·.dst)=some d) (hb:gt st.sl d=tB b) (h:DZ P N ops ((q,o)::lz) dn seg ys base st K):DZ P N ops ((q,o)::lz) dn seg ys base st K:=h
theorem rU (hg:o.guard=some (j,b)) (h:AWR P N ops (o::l) st K):AWR P N ops (o::l) st K:=h
theorem dU (hg:o.guard=some (j,b)) (h:DR P N ops (o::l) is st KK):DR P N ops (o::l) is st KK:=h
theorem zU (hg:o.guard=some (j,b)) (h:DZ P N ops ((q,o)::lz) dn seg ys base st K):DZ P N ops ((q,o)::lz) dn seg ys base st K:=h
section
variable {dd:Option Tmp} {cl:Call} {ty t1:TypeId} {x1 x2:Operand} {ps:String} {af:Array Edge} {gd:Option (Nat×Bool)}
theorem rCl (h:AWR P N ops (⟨dd,.call cl,ty,ps,af,gd⟩::l) st K):AWR P N ops (⟨dd,.call cl,ty,ps,af,gd⟩::l) st K:=h
theorem rIx (h:AWR P N ops (⟨dd,.indexAddr t1 x1 x2,ty,ps,af,gd⟩::l) st K):AWR P N ops (⟨dd,.indexAddr t1 x1 x2,ty,ps,af,gd⟩::l) st K:=h
theorem dCl (h:DR P N ops (⟨dd,.call cl,ty,ps,af,gd⟩::l) is st KK):DR P N ops (⟨dd,.call cl,ty,ps,af,gd⟩::l) is st KK:=h
theorem dIx (h:DR P N ops (⟨dd,.indexAddr t1 x1 x2,ty,ps,af,gd⟩::l) is st KK):DR P N ops (⟨dd,.indexAddr t1 x1 x2,ty,ps,af,gd⟩::l) is st KK:=h
theorem zCl (h:DZ P N ops ((q,⟨dd,.call cl,ty,ps,af,gd⟩)::lz) dn seg ys base st K):DZ P N ops ((q,⟨dd,.call cl,ty,ps,af,gd⟩)::lz) dn seg ys base st K:=h
theorem zIx (h:DZ P N ops ((q,⟨dd,.indexAddr t1 x1 x2,ty,ps,af,gd⟩)::lz) dn seg ys base st K):DZ P N ops ((q,⟨dd,.indexAddr t1 x1 x2,ty,ps,af,gd⟩)::lz) dn seg ys base st K:=h
end
theorem cL {c:Code} (h:AWC P N (.loop c) st AQ):AWC P N (.loop c) st AQ:=h
theorem cK {c:Operand} {Y:Code} (h:AWC P N (.cond c X Y) st AQ):AWC P N (.cond c X Y) st AQ:=h
theorem cR {a:Nat} {c:Array Oper} (h:AWC P N (.region a c true) st AQ):AWC P N (.region a c true) st AQ:=h
theorem iW {s:St} (h:dS N st s):dS N st s:=h
theorem iP {rs:List ResultVar} (h:zV N P rs res .ret st):zV N P rs res .ret st:=h
theorem iE {rs:List ResultVar} (h:zV N P rs res .normal st):zV N P rs res .normal st:=h
end
theorem gF    {c:Code}  {args:List AV} {rs:List ResultVar}   {A B C D E F H I J K L:Prop} (hf:P.funcs[f]?=some fn) (hN:fn.ntmps=N)
 (ha0:A:=by exact trivial) (hb0:B:=by exact trivial) (hc:C:=by exact trivial) (hd:D:=by exact trivial) (he:E:=by exact trivial) (hf0:F:=by exact trivial) (hg:G:=by exact trivial) (hh:H:=by exact trivial) (hi:I:=by exact trivial) (hj:J:=by exact trivial) (hk:K:=by exact trivial) (hl:L:=by exact trivial)
 (hb:fn.body=some c:=by exact rfl) (hnm:(fn.name== "runtime.NumGoroutine")=false:=by kernel_rfl) (hrs:fn.results.toList=rs:=by exact rfl)
 (ha:aaz args.length N=true:=by exact rfl) (hs:KR 0 args=some sl0:=by exact rfl) (w:A->B->C->D->E->F->G->H->I->J->K->L->p->AWC P N c ⟨sl0,[],0⟩ (zV N P rs res):=by
 intros _ _ _ _ _ _ _ _ _ _ _ _
 intro H
 refine wI ?_
 repeat' (first
  |(refine iR ?_;first|(refine rD rfl rfl rfl ?_;(first|(refine rCl ?_;refine aa H ?_;intro x q H;refine nG (caF q) ?_)|(refine rIx ?_;refine aa H ?_;intro x q H;first|refine nG (xdF q) ?_|refine nG (xwT q) ?_)|refine nG RB ?_|refine nG oeF ?_|refine nG (ir rfl rfl rfl (by decide)) ?_|refine nG (iq rfl rfl rfl (by decide)) ?_|(refine aq H ?_;intro h H;first|refine sA (apFf h) ?_|refine sA (apF h) ?_|refine nG (QK h) ?_|refine nG (QL h) ?_|refine nG (Fh h rfl rfl rfl rfl) ?_)))|(refine rU rfl ?_;first|(refine jr H rfl rfl (by assumption) ?_ ?_<;>((first|(refine pE ?_;intro _;(repeat (refine pE ?_;intro _));intro v H;(try dsimp only))|intro v H);refine wI ?_))|(refine gC H ?_ ?_<;>intro H))|(first|(refine rCl ?_;refine aa H ?_;intro x q H;refine nA (caF q) ?_)|(refine rIx ?_;refine aa H ?_;intro x q H;first|refine nA (xdF q) ?_|refine nA (xwT q) ?_)|refine nA RB ?_|refine nA oeF ?_|refine nA (ir rfl rfl rfl (by decide)) ?_|refine nA (iq rfl rfl rfl (by decide)) ?_|(refine aq H ?_;intro h H;first|refine sA (apFf h) ?_|refine sA (apF h) ?_|refine nA (QK h) ?_|refine nA (QL h) ?_|refine nA (Fh h rfl rfl rfl rfl) ?_)))
  |(refine cK ?_;first|(refine jc H (by assumption) ?_ ?_<;>((first|(refine pE ?_;intro _;(repeat (refine pE ?_;intro _));intro v H;(try dsimp only))|intro v H);refine wI ?_))|(refine cC H ?_ ?_<;>intro H))
  |(refine cL ?_;first|(refine jb H (by assumption) ?_ ?_<;>((first|(refine pE ?_;intro _;(repeat (refine pE ?_;intro _));intro v H;(try dsimp only))|intro v H);refine wI ?_))|(refine il H (by assumption) (by exact wf) ?_;((first|(refine pE ?_;intro _;(repeat (refine pE ?_;intro _));intro v o H;(try dsimp only))|intro v o H);refine wI ?_)))
  |(refine cR ?_;first|(refine iHZ (by assumption) ?_;refine zR ?_)|refine dI ?_)
  |(refine are H ?_;intro H;refine wI ?_)
  |(refine arr H ?_;intro H;refine wI ?_)
  |(refine iD ?_;first|(refine dD rfl rfl rfl ?_;(first|(refine dCl ?_;refine aa H ?_;intro x q H;refine dG (caF q) ?_)|(refine dIx ?_;refine aa H ?_;intro x q H;first|refine dG (xdF q) ?_|refine dG (xwT q) ?_)|refine dG RB ?_|refine dG oeF ?_|refine dG (ir rfl rfl rfl (by decide)) ?_|refine dG (iq rfl rfl rfl (by decide)) ?_|(refine aq H ?_;intro h H;first|refine dG (QK h) ?_|refine dG (QL h) ?_|refine dG (Fh h rfl rfl rfl rfl) ?_)))|(refine dU rfl ?_;first|(refine jd H rfl rfl (by assumption) ?_ ?_<;>((first|(refine pE ?_;intro _;(repeat (refine pE ?_;intro _));intro v H;(try dsimp only))|intro v H);refine wI ?_))|(refine dC H ?_ ?_<;>intro H))|(first|(refine dCl ?_;refine aa H ?_;intro x q H;refine dA (caF q) ?_)|(refine dIx ?_;refine aa H ?_;intro x q H;first|refine dA (xdF q) ?_|refine dA (xwT q) ?_)|refine dA RB ?_|refine dA oeF ?_|refine dA (ir rfl rfl rfl (by decide)) ?_|refine dA (iq rfl rfl rfl (by decide)) ?_|(refine aq H ?_;intro h H;first|refine dA (QK h) ?_|refine dA (QL h) ?_|refine dA (Fh h rfl rfl rfl rfl) ?_)))
  |(refine iZ ?_;first|(refine iZs ?_;refine zS ?_)|(refine zD rfl rfl rfl ?_;(first|(refine zCl ?_;refine aa H ?_;intro x q H;refine zG (caF q) ?_)|(refine zIx ?_;refine aa H ?_;intro x q H;first|refine zG (xdF q) ?_|refine zG (xwT q) ?_)|refine zG RB ?_|refine zG oeF ?_|refine zG (ir rfl rfl rfl (by decide)) ?_|refine zG (iq rfl rfl rfl (by decide)) ?_|(refine aq H ?_;intro h H;first|refine zG (QK h) ?_|refine zG (QL h) ?_|refine zG (Fh h rfl rfl rfl rfl) ?_)))|(refine zU rfl ?_;first|(refine jz H rfl rfl (by assumption) ?_ ?_<;>((first|(refine pE ?_;intro _;(repeat (refine pE ?_;intro _));intro v H;(try dsimp only))|intro v H);refine wI ?_))|(refine zC H ?_ ?_<;>intro H))|(first|(refine zCl ?_;refine aa H ?_;intro x q H;refine zA (caF q) ?_)|(refine zIx ?_;refine aa H ?_;intro x q H;first|refine zA (xdF q) ?_|refine zA (xwT q) ?_)|refine zA RB ?_|refine zA oeF ?_|refine zA (ir rfl rfl rfl (by decide)) ?_|refine zA (iq rfl rfl rfl (by decide)) ?_|(refine aq H ?_;intro h H;first|refine zA (QK h) ?_|refine zA (QL h) ?_|refine zA (Fh h rfl rfl rfl rfl) ?_)))
  |(refine sgd H ?_;cases H;first|(refine iP ?_;exact bX)|(refine iW ?_;exact wf)|(refine iE ?_;exact Xj)|(refine tD ?_;exact wf)|(refine Fg (λhq=>?_);cases hq;refine wI ?_;refine iW ?_;exact wf)))):FC P p f args res:=⟨λq=>YR hf hb hnm hN hrs ha hs (w ha0 hb0 hc hd he hf0 hg hh hi hj hk hl q)⟩
end Go.AM
namespace Go
def yk (N h:Nat):Nat:=Nat.mod (Nat.shiftRight N (10*h)) 1024
def ranked (P:Program) (N:Nat):Bool:=P.funcs.toList.zipIdx.all λy=>(P.leadsTo y.1).all λh=>aaz (yk N h+1) (yk N y.2)
theorem Ia {P:Program} {N:Nat} (h:ranked P N=true) {g:Nat} {fn:Func} (hg:P.funcs[g]?=some fn):∀x∈P.leadsTo fn,yk N x<yk N g:=by
 intro x hx
 unfold ranked at h
 rw[aag] at h
 have h1:=h (fn,g) (by rw[List.mem_zipIdx_iff_getElem?];simpa using hg)
 rw[aag] at h1
 exact aaO (h1 x hx)
theorem uM {P:Program} {N r:Nat} (h:ranked P N=true):∀(fuel:Nat) (todo seen:List FuncId),(∀x∈todo,yk N x<=r)->(∀x∈seen,yk N x<=r)->∀x∈P.closureVia fuel todo seen,yk N x<=r
 |0,todo,seen,h1,h2,x,hx=>h2 x (by simpa [Program.closureVia] using hx)
 |n+1,[],seen,h1,h2,x,hx=>h2 x (by simpa [Program.closureVia] using hx)
 |n+1,f::todo,seen,h1,h2,x,hx=>by
  rw[Program.closureVia] at hx
  split at hx
  .exact uM h n todo seen (λy hy=>h1 y (by simp[hy])) h2 x hx
  refine uM h n _ (f::seen) (λy hy=>?_) (λy hy=>?_) x hx
  .rcases aac.1 hy with hy|hy
   .cases e:P.funcs[f]? with
    |none=>rw[e] at hy;simp at hy
    |some fn=>
     rw[e] at hy
     have:=Ia h e y (by simpa using hy)
     have:=h1 f (by simp)
     omega
   exact h1 y (by simp[hy])
  rcases aae.1 hy with rfl|hy
  .exact h1 _ (by simp)
  exact h2 y hy
theorem recurses_of {P:Program} {N:Nat} (h:ranked P N=true) (f:FuncId):P.recurses f=P.unfollowed f:=by
 unfold Program.recurses
 rw[show((P.closure f).any λg=>((P.funcs[g]?).elim [] P.leadsTo).any λh=>(P.closure h).contains g)=false from ?_]
 .simp
 rw[abk]
 intro g hg
 rw[abO,abk]
 intro x hx
 rw[abO]
 cases hc:(P.closure x).contains g with
 |false=>rfl
 |true=>
  have hm:g∈P.closure x:=by simpa using hc
  have h1:=uM h (r:=yk N x) _ [x] [] (by simp) (by simp) g hm
  cases e:P.funcs[g]? with
  |none=>rw[e] at hx;simp at hx
  |some fn=>
   rw[e] at hx
   have:=Ia h e x (by simpa using hx)
   omega
def Q9 (P:Program) (l:List FuncId):List String:=
 l.filterMap λg=>(P.funcs[g]?).bind λfn=>if fn.ours||fn.body.isNone||fn.name== "runtime.NumGoroutine" then some fn.name else none
def Kt (P:Program) (l:List FuncId):Bool:=
 l.any λg=>(P.funcs[g]?).any λfn=>match fn.body with|some c=>c.unfollowed|none=>entryCalls fn
def MQ (P:Program) (l:List FuncId):List String:=
 (((l.flatMap λg=>((P.funcs[g]?).bind (·.body)).elim [] Code.globalsNamed).eraseDups).filterMap (λg=>(P.globals[g]?).map (·.name))++
  l.filterMap λg=>(P.funcs[g]?).bind λfn=>if fn.body.isNone then entryReads.lookup fn.name else none).eraseDups
theorem inPlace_is {P:Program} {f:FuncId} {l:List FuncId} (h:P.closure f=l):P.inPlace f=Q9 P l:=by unfold Program.inPlace;rw[h];rfl
theorem unfollowed_is {P:Program} {f:FuncId} {l:List FuncId} (h:P.closure f=l):P.unfollowed f=Kt P l:=by unfold Program.unfollowed;rw[h];rfl
theorem varsNamed_is {P:Program} {f:FuncId} {l:List FuncId} (h:P.closure f=l):P.varsNamed f=MQ P l:=by unfold Program.varsNamed;rw[h];rfl
end Go
