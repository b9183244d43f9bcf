/- A part. -/
import Derived.Test.YtigcecmbknoijaaGreatDoorE2
import Derived.Laws.IdiomStrings
import Derived.Deep.AppendSrc
import Derived.JoinedOf
set_option linter.unusedVariables false
set_option linter.unusedSimpArgs false
set_option maxHeartbeats 4000000
open Option renaming some->ς,none->ξ
open Bool renaming true->ζ,false->η
open True renaming intro->θ
open Bool renaming and_eq_true->hV,not_true->Ze,not_eq_true'->Yz,or_eq_false_iff->Yp,false_or->Zu,not_eq_true->ZJ,or_eq_true->Yw,and_false->ZQ,not_false->ZK,or_false->ZE,and_true->Zv,or_true->ZL
open List renaming getElem?_append_right->Ys,getElem?_append_left->Yt,getElem?_eq_some_iff->Yc,eq_nil_of_length_eq_zero->YD,all_eq_true->Yi,flatten_append->Zb,mem_of_mem_take->YG,eq_nil_iff_forall_not_mem->ZA,getElem?_toArray->Zz,length_append->YB,getElem?_drop->YL,getElem?_map->YM,length_take->Zd,take_append_drop->ZD,replicate->Yo,getElem?_take->YK,mem_cons->Yh,map_cons->Yq,all_cons->Yy,getElem?_set->Zx,append_assoc->ZB,map_toArray->Zg,length_drop->ZG,cons_append->Yv,getElem?_cons_succ->ZO,map_append->Y8,length_map->YA,range->v0,map_drop->Zh,filter_eq_self->ZC,mem_map->Y3,map_nil->Y7,any_eq_false->ZI,any_eq_true->YF,map_take->Zk
open Nat renaming beq->f4,lt_of_lt_of_le->Yr,mul_le_mul_right->YI,le_refl->Yj,zero_add->Yl,eq_of_beq_eq_true->Yf,min_eq_left->Za,lt_or_ge->Yx,ble->Yk,add_mul->Zt,zero_le->Yu,le_of_ble_eq_true->YJ,zero_mul->ZH,add_zero->YN,lt_succ_of_lt->ZP,ne_of_lt->ZR,le_trans->Y9
open Array renaming replicate->Ym,getD_eq_getD_getElem?->Zy,getElem?_append_left->Zf,getElem?_setIfInBounds_ne->ZF,setIfInBounds_comm->ZM,toArray_toList->YQ
open Option renaming bind_eq_some_iff->Zw,isSome_iff_exists->ZN
namespace Go.AM
open Go.RowKit
variable{u:Value}{t nt ty:TypeId}{N q l nx' k e n nx sz id off j:Nat}{E E':Go.AM.Env}{st s:Go.AM.St}{w:World}{y x:Go.AM.Ob}{R p G R1:Prop}{h i:Int}{nob nw ob':Go.AM.Laa}{g gy gg b:Bool}{zd:Go.AM.Lad}{f:FuncId}{P:Program}{fn:Func}{args:List Go.AM.T}{sl sl' sl0:Go.AM.Lab}{out:Go.AM.T}{rs:List ResultVar}{cs cs':List Go.AM.C}{res:List Go.AM.RV}{ρ α:Type}{X:Code}{r:ρ}
structure KG(q l:Nat)(E:Env)(w:World)(E':Env)(w':World):Prop where
 r:∀o x,o≠q->E.r o=ς x->E'.r o=ς x
 H:∀g b,E.H g b->E'.H g b
 heap:∀g b,E.H g b->w'.heap[b]?=w.heap[b]?
 T:∀k b,k≠l->E.T k b->E'.T k b/\w'.heap[b]?=w.heap[b]?
 Z:∀b,E.Z b->E'.Z b/\pM w w' b
 n:∀o,o≠q->(E'.n o↔E.n o)
section
variable{q l:Nat}{E E':Env}{w w':World}
theorem Ps(x:KG q l E w E' w'):∀{c:C} {u:Value},c.has q=η->c.hasR l=η->cvC E w c u->cvC E' w' c u
 | .d g d,u,_,_,h=>cm (x.heap g) (x.H g) d u h
 | .w o n,u,ho,_,⟨b,c,h,hu⟩=>⟨b,c,x.r _ _ (iN ho) h,hu⟩
 | .s o sz off len,u,ho,_,⟨A,c,b,k,h,hu⟩=>⟨A,c,b,k,x.r _ _ (iN ho) h,hu⟩
 | .p o k,u,ho,_,⟨b,c,h,hu⟩=>⟨b,c,x.r _ _ (iN ho) h,hu⟩
 | .e o sz i j,u,ho,_,⟨b,c,h,hu⟩=>⟨b,c,x.r _ _ (iN ho) h,hu⟩
 | .q g y j,u,_,_,⟨b,k,hu,hb,h⟩=>⟨b,k,hu,x.H g b hb,rdL_mono (x.heap g) (x.H g) y b k hb h⟩
 | .fn f,u,_,_,h=>h
 | .nil,u,_,_,h=>h
 | .any,u,_,_,_=>trivial
 | .r k d,u,_,hl,h=>cm (λb hb=>(x.T k b (iN hl) hb).2) (λb hb=>(x.T k b (iN hl) hb).1) d u h
 | .z d,u,_,_,h=>sK (λb hb=>(x.Z b hb).2) (λb hb=>(x.Z b hb).1) d u h
 | .zq y j,u,_,_,⟨b,k,hu,hb,h⟩=>⟨b,k,hu,(x.Z b hb).1,rsL_mono (λb hb=>(x.Z b hb).2) (λb hb=>(x.Z b hb).1) y b k hb h⟩
 | .wn o n,u,ho,_,.inl ⟨h1,h2⟩=>.inl ⟨(x.n o (iN ho)).2 h1,h2⟩
 | .wn o n,u,ho,_,.inr ⟨h1,b,c,h,hu⟩=>.inr ⟨λk=>h1 ((x.n o (iN ho)).1 k),b,c,x.r _ _ (iN ho) h,hu⟩
theorem OU(x:KG q l E w E' w'):∀{cs:List C} {us:Lae},Ac q cs=η->Hz l cs=η->CV E w cs us->CV E' w' cs us
 |[],[],_,_,_=>trivial
 |c::cs,u::us,h1,h2,h=>by
  simp only[Ac,Hz,Yp] at h1 h2
  exact⟨Ps x h1.1 h2.1 h.1,OU x h1.2 h2.2 h.2⟩
 |[],_::_,_,_,h=>h.elim
 |_::_,[],_,_,h=>h.elim
theorem Pv(x:KG q l E w E' w'){v:V}(h1:v.has q=η)(h2:v.hasR l=η)(h:cvV E w v u):cvV E' w' v u:=by
 cases v with
 |c c=>exact Ps x h1 h2 h
 |agg cs=>obtain⟨arr,hu,h⟩:=h;exact⟨arr,hu,OU x h1 h2 h⟩
theorem Vt(x:KG q l E w E' w'):∀{cs:List V} {us:Lae},DT q cs=η->Fr l cs=η->VV E w cs us->VV E' w' cs us
 |[],[],_,_,_=>trivial
 |c::cs,u::us,h1,h2,h=>by
  simp only[DT,Fr,Yp] at h1 h2
  exact⟨Pv x h1.1 h2.1 h.1,Vt x h1.2 h2.2 h.2⟩
 |[],_::_,_,_,h=>h.elim
 |_::_,[],_,_,h=>h.elim
theorem Wd(x:KG q l E w E' w'){t:T}(h1:t.has q=η)(h2:t.hasR l=η)(h:cvT E w t u):cvT E' w' t u:=by
 cases t with
 |v v=>exact Pv x h1 h2 h
 |tup ts=>obtain⟨arr,hu,h⟩:=h;exact⟨arr,hu,Vt x h1 h2 h⟩
 |any=>trivial
def Ob.hasR(l:Nat):Ob->Bool
 | .var _ cs=>Hz l cs
 | .abs j _=>f4 j l
 |_=>η
theorem Ru(x:KG q l E w E' w'){o:Nat}{ob:Ob}(ho:o≠q)(h1:ob.hasO q=η)(h2:ob.hasR l=η)(hb:∀b c,E.r o=ς (b,c)->w'.heap[b]?=w.heap[b]?)(hF:∀b c,E.r o=ς (b,c)->¬E.F b->¬E'.F b)(h:cB E w o ob):cB E' w' o ob:=by
 cases ob with
 |var ty cs=>
  obtain⟨b,c,arr,hr,hh',hc,hf⟩:=h
  exact⟨b,c,arr,x.r _ _ ho hr,(hb b c hr).trans hh',OU x h1 h2 hc,hF b c hr hf⟩
 |row ty sz els g m=>
  obtain⟨b,c,arr,hr,hh',a1,a2,a3,a4,a5,a6,a7⟩:=h
  exact⟨b,c,arr,x.r _ _ ho hr,(hb b c hr).trans hh',a1,a2,a3,a4,cf (x.heap g) (x.H g) (hb b c hr) _ _ a5,λhm=>hF b c hr (a6 hm),λhm=>⟨x.H η b (a7 hm).1,λhg=>x.H ζ b ((a7 hm).2 hg)⟩⟩
 |rown ty sz els g=>
  rcases h with⟨h0,h1⟩|⟨h0,b,c,arr,hr,hh',a1,a2,a3,a4,a5,a6⟩
  .exact .inl ⟨(x.n o ho).2 h0,h1⟩
  exact .inr ⟨λh=>h0 ((x.n o ho).1 h),b,c,arr,x.r _ _ ho hr,(hb b c hr).trans hh',a1,a2,a3,a4,cf (x.heap g) (x.H g) (hb b c hr) _ _ a5,hF b c hr a6⟩
 |abs j y=>
  rcases h with⟨h0,h1⟩|⟨h0,b,c,hr,a1,a2⟩
  .exact .inl ⟨(x.n o ho).2 h0,h1⟩
  exact .inr ⟨λh=>h0 ((x.n o ho).1 h),b,c,x.r _ _ ho hr,y.st _ _ _ _ _ _ a1 (λk hk=>(x.T j k (iN h2) hk).1) (hb b c hr) (λk hk=>(x.T j k (iN h2) hk).2),hF b c hr a2⟩
end
def zt(o:Nat):Laa->Laa
 |[]=>[]
 |(k,x)::r=>bif f4 k o then zt o r else(k,x)::zt o r
theorem yi{o l:Nat}{x:Ob}:∀{ob:Laa},go (zt o ob) l=ς x->l≠o/\go ob l=ς x
 |[],h=>by cases h
 |(k,y)::r,h=>by
  rw[zt] at h
  cases hk:f4 k o with
  |true=>
   rw[hk] at h
   obtain⟨h1,h2⟩:=yi h
   have:=Yf hk;subst this
   exact⟨h1,by rw[bG _ _ (Ne.symm h1)];exact h2⟩
  |false=>
   rw[hk] at h
   by_cases e:k=l
   .subst e
    simp only[cond_false] at h
    rw[b9] at h ⊢;exact⟨iN hk,h⟩
   simp only[cond_false] at h
   rw[bG _ _ e] at h ⊢;exact yi h
def okO(q l:Nat):Laa->Bool
 |[]=>ζ
 |(_,x)::r=>(!x.hasO q&&!x.hasR l)&&okO q l r
theorem Rb{q l o:Nat}{x:Ob}:∀{ob:Laa},okO q l ob=ζ->go ob o=ς x->x.hasO q=η/\x.hasR l=η
 |[],_,h=>by cases h
 |(k,y)::r,h0,h=>by
  simp only[okO,hV,Yz] at h0
  by_cases e:k=o
  .subst e;rw[b9] at h;simp_all
  rw[bG _ _ e] at h;exact Rb h0.2 h
theorem F3{cx cx':Cx}{a:Act}{w':World}{o:Nat}{sl1 sl2:Lab}{ob1:Laa}(hR:Rel N cx E st a w)(ok':da cx' E' w')(kg:KG q l E w E' w')(h1:mf q st.sl=ς sl1)(h2:Aa l sl1=ς sl2)(h3:zt q (zt o st.ob)=ob1)(h4:okO q l ob1=ζ)(hy:cB E' w' o y)(hb:∀k b c,k≠q->k≠o->E.r k=ς (b,c)->w'.heap[b]?=w.heap[b]?)(hF:∀k b c,k≠q->k≠o->E.r k=ς (b,c)->¬E.F b->¬E'.F b)(hdom:∀o x,E'.r o=ς x->o<nx')(htd:∀l b,E'.T l b->l<nx'):
 Rel N cx' E' ⟨sl2,(o,y)::ob1,nx'⟩ a w':=by
 subst h3
 refine⟨ok',hdom,λk x hk=>?_,λk=>?_,hR.dfr,hR.size,htd⟩
 .by_cases e:o=k
  .subst e
   rw[b9] at hk;simp_all
  rw[bG _ _ e] at hk
  obtain⟨k1,k2⟩:=Rb h4 hk
  obtain⟨k3,k4⟩:=yi hk
  obtain⟨k5,k6⟩:=yi k4
  exact Ru kg k3 k1 k2 (λb c hr=>hb k b c k3 k5 hr) (λb c hr=>hF k b c k3 k5 hr) (hR.obs k x k6)
 rcases Hi h2 k with e|⟨e1,e2⟩
 .show cvT E' w' (gt sl2 k) _;rw[e];trivial
 rcases uY h1 k with e|⟨e3,e4⟩
 .show cvT E' w' (gt sl2 k) _;rw[e1,e];trivial
 show cvT E' w' (gt sl2 k) _
 rw[e1,e3]
 exact Wd kg e4 (by simp_all) (hR.sl k)
def nv:Option (Nat×Nat)->Nat->Value
 |none,_=>.slice ξ 0 0
 |some (k,c),n=>.slice (ς ⟨k,0,ξ⟩) n c
def Ba(w:World)(nt:TypeId)(k c:Nat)(xs:List Int):Prop:=(∃arr,w.heap[k]?=ς (.cells arr nt (0,0))/\arr.size=c)/\xs.length<=c/\c<=maxLen/\∀j x,xs[j]?=ς x->w.cell? ⟨k,j,ξ⟩=ς (.int .i64 x)
def KL(w:World)(R:Nat->Prop)(nt:TypeId):Option (Nat×Nat)->List Int->Prop
 |none,xs=>xs=[]
 |some (k,c),xs=>R k/\Ba w nt k c xs
theorem Ba.rd{c:Nat}{xs:List Int}(h:Ba w nt k c xs)(F:Nat->Prop):rdLL w F (xs.map eI) k 0:=by
 refine tN (sz:=1) (by simp[eI]) λi e hi=>?_
 rw[YM] at hi
 cases hx:xs[i]? with
 |none=>simp_all
 |some x=>
  rw[hx] at hi;cases hi
  rw[eI,rdL,rdL]
  exact⟨⟨_,by simpa using h.2.2.2 i x hx,by rw[rdD]⟩,θ⟩
theorem Ba.of{c:Nat}{xs:List Int}{F:Nat->Prop}{arr:Array Value}(hh:w.heap[k]?=ς (.cells arr nt (0,0)))(ha:arr.size=c*1)(hl:(xs.map eI).length<=c)(hc:c<=maxLen)(h:rdLL w F (xs.map eI) k 0):Ba w nt k c xs:=by
 refine⟨⟨arr,hh,by omega⟩,by simp_all,hc,λj x hx=>?_⟩
 have:=oi (sz:=1) (i:=j) (e:=eI x) h (by simp[eI]) (by simp_all)
 rw[eI,rdL] at this
 obtain⟨u,h1,h2⟩:=this.1
 rw[rdD] at h2;simp_all
theorem Ba.keep{w':World}{c:Nat}{xs:List Int}(h:Ba w nt k c xs)(hk:w'.heap[k]?=w.heap[k]?):Ba w' nt k c xs:=by
 obtain⟨⟨arr,h1,h2⟩,h3,h4,h5⟩:=h
 exact⟨⟨arr,hk.trans h1,h2⟩,h3,h4,λj x hx=>(tq hk).trans (h5 j x hx)⟩
theorem KL.keep{w':World}{R R':Nat->Prop}{h:Option (Nat×Nat)}{xs:List Int}(hn:KL w R nt h xs)(hR:∀k c,h=ς (k,c)->R k->R' k)(hk:∀k c,h=ς (k,c)->R k->w'.heap[k]?=w.heap[k]?):KL w' R' nt h xs:=by
 cases h with
 |none=>exact hn
 |some p=>exact⟨hR _ _ rfl hn.1,hn.2.keep (hk _ _ rfl hn.1)⟩
def Hid.loc(nt:TypeId)(A:Option Addr)(n c:Nat)(xs:List Int):Hid where
 nl:=A=ξ/\n=0/\c=0/\xs=[]
 S:=λb k R w=>A=ς ⟨b,0,ξ⟩/\c=k/\n=xs.length/\Ba w nt b k xs
 st:=by
  rintro b c' R R' w w' ⟨h1,h2,h3,h4⟩ hR hb hk
  exact⟨h1,h2,h3,h4.keep hb⟩
abbrev Jh:=Option (Nat×Option Addr×Nat×Nat)
def xD:Jh->Nat->Bool
 |none,_=>η
 |some (j,_),i=>f4 j i
structure CxS(ty nt:TypeId)(els:List (Int×List Int))(ho:Jh)(b c:Nat)(R:Nat->Prop)(w:World)(hd:Nat->Option (Nat×Nat)):Prop where
 blk:∃arr,w.heap[b]?=ς (.cells arr ty (0,0))/\arr.size=c*2
 len:els.length<=c
 cap:c<=maxLen
 a:∀i e,els[i]?=ς e->w.cell? ⟨b,i*2,ξ⟩=ς (.int .i64 e.1)
 s:∀i e,els[i]?=ς e->xD ho i=η->w.cell? ⟨b,i*2+1,ξ⟩=ς (nv (hd i) e.2.length)
 ne:∀i e,els[i]?=ς e->xD ho i=η->KL w R nt (hd i) e.2
 inj:∀i j k c c',i<els.length->j<els.length->xD ho i=η->xD ho j=η->hd i=ς (k,c)->hd j=ς (k,c')->i=j
 h:∀i A n k,ho=ς (i,A,n,k)->w.cell? ⟨b,i*2+1,ξ⟩=ς (.slice A n k)
def Hid.cx(ty nt:TypeId)(els:List (Int×List Int))(ho:Jh):Hid where
 nl:=els=[]
 S:=λb c R w=>∃hd,CxS ty nt els ho b c R w hd
 st:=by
  rintro b c R R' w w' ⟨hd,h⟩ hR hb hk
  obtain⟨⟨arr,h1,h2⟩,h3,h4,h5,h6,h7,h8,h9⟩:=h
  exact⟨hd,⟨arr,hb.trans h1,h2⟩,h3,h4,λi e hi=>(tq hb).trans (h5 i e hi),λi e hi hh=>(tq hb).trans (h6 i e hi hh),λi e hi hh=>(h7 i e hi hh).keep (λk _ _ hk=>hR k hk) (λk _ _ h=>hk k h),h8,λi A n k hh=>(tq hb).trans (h9 i A n k hh)⟩
abbrev Ob.cxo(o:Nat)(ty nt:TypeId)(els:List (Int×List Int))(ho:Jh):Ob:=.abs o (Hid.cx ty nt els ho)
section
variable{P:Program}{d:Option Tmp}{tt:TypeId}{ps:String}{af:Array Edge}{gd:Option (Nat×Bool)}{x y:Operand}
theorem AD{o:Nat}{els:List (Int×List Int)}{ho:Jh}{i:Nat}{e:Int×List Int}(he:els[i]?=ς e)(h:cB E w o (.cxo o ty nt els ho)):
 ¬E.n o/\∃b c hd,E.r o=ς (b,c)/\CxS ty nt els ho b c (E.T o) w hd/\¬E.F b:=by
 rcases h with⟨_,h1⟩|⟨h0,b,c,hr,⟨hd,h1⟩,h2⟩
 .have h1:els=[]:=h1
  simp_all
 grind
theorem NK{o i:Nat}{els:List (Int×List Int)}{ho:Jh}{e:Int×List Int}[ic P t](he:els[i]?=ς e)(hh:xD ho i=η):
 AWN P ⟨d,.load t x,tt,ps,af,gd⟩ [(x,.v (.c (.e o 2 i 1)))] [(o,.cxo o ty nt els ho)] (.v (.c (.r o (.l (e.2.map eI))))) []:=
 cd λE ac w hn hb=>by
  obtain⟨b,c',hr,hu⟩:=hn x _ (.head _)
  obtain⟨_,b',c'',hd,hr',hS,_⟩:=AD he (hb o _ (.head _))
  rw[hr] at hr';cases hr'
  refine⟨nv (hd i) e.2.length,by simp[execOp,hu,lL (P:=P) (t:=t) (hS.s i e he hh)],?_⟩
  have hne:=hS.ne i e he hh
  show rdD w (E.T o) (.l (e.2.map eI)) _
  cases hdi:hd i with
  |none=>
   rw[hdi] at hne
   have hne:e.2=[]:=hne
   rw[hne];exact⟨ξ,0,rfl,Yj _,.inl rfl⟩
  |some p=>
   obtain⟨k,cc⟩:=p
   rw[hdi] at hne
   exact⟨ς ⟨k,0,ξ⟩,cc,by simp[nv],by simpa using hne.2.2.1,.inr ⟨k,0,rfl,hne.1,hne.2.rd _⟩⟩
theorem HW{o i:Nat}{els:List (Int×List Int)}{A:Option Addr}{e:Int×List Int}[ic P t](he:els[i]?=ς e):
 AWN P ⟨d,.load t x,tt,ps,af,gd⟩ [(x,.v (.c (.e o 2 i 1)))] [(o,.cxo o ty nt els (ς (i,A,n,k)))] (.v (.c (.d η (.k A n k)))) []:=
 cd λE ac w hn hb=>by
  obtain⟨b,c',hr,hu⟩:=hn x _ (.head _)
  obtain⟨_,b',c'',hd,hr',hS,_⟩:=AD he (hb o _ (.head _))
  rw[hr] at hr';cases hr'
  exact⟨.slice A n k,by simp[execOp,hu,lL (P:=P) (t:=t) (hS.h i A n k rfl)],by rfl⟩
end
section
variable{P:Program}{N:Nat}{d:Tmp}{tt:TypeId}{ps:String}{af:Array Edge}{gd:Option (Nat×Bool)}{x y:Operand}{sl sl1 sl2:Lab}{ob ob1:Laa}{nx:Nat}
theorem Sf{c:C}{ys:Lad}{h:Hid}{z:Ob}(hs:Src nob c ys g)(hq:go nob q=ς (.abs l h)):Src ((q,z)::nob) c ys g:=by
 cases hs with
 |d=>exact .d
 |nil=>exact .nil
 |w h1 hn=>exact .w (by rw[bG _ _ (λe=>by simp_all)];exact h1) hn
 |s h1 hn=>exact .s (by rw[bG _ _ (λe=>by simp_all)];exact h1) hn
 |wn h1 hn=>exact .wn (by rw[bG _ _ (λe=>by simp_all)];exact h1) hn
theorem Fu{nt by_ p c:Nat}{xs:List Int}{ys:Lad}{cc:C}[ht:dB P t nt 1 by_](hrv:rsv q=η)(ho:go nob q=ς (.abs l (Hid.loc nt (ς ⟨k,0,ξ⟩) n c xs)))(hs:Src nob cc ys gy)(hn:xs.length=n)(hsz:∀e∈ys,e.length=1)(hb:(n+ys.length)*by_<=140737488355328)(h63:n+ys.length<=9223372036854775807):
 AWK P ⟨ς d,.call ⟨.builtin .append,#[x,y],#[t,t]⟩,tt,ps,af,gd⟩ [(x,.v (.c (.d η (.k (ς ⟨k,0,ξ⟩) n c)))),(y,.v (.c cc))] nob (.v (.c (.w p (n+ys.length)))) [(p,.row nt 1 (xs.map eI++ys) (ζ&&gy) ζ)] [] (ς q):=by
 intro cx E a w ok hne hnob hfr
 have hq:=hnob q _ (uR ho)
 rcases hq with⟨_,h1⟩|⟨_,b,c',hr,⟨h1,h2,h3,⟨⟨arr,h4,h5⟩,h6,h7,h8⟩⟩,hF⟩
 .have h1:ς (⟨k,0,ξ⟩:Addr)=ξ/\_:=h1
  cases h1.1
 cases h1
 subst h2
 have hrow:cB E w q (.row nt 1 (xs.map eI) ζ ζ):=⟨k,c,arr,hr,h4,by omega,by grind,h7,by simp[eI],Ba.rd ⟨⟨arr,h4,h5⟩,h6,h7,h8⟩ _,λ_=>hF,λh=>by cases h⟩
 refine HM (P:=P) (d:=d) (ty:=tt) (ps:=ps) (af:=af) (gd:=gd) (x:=x) (y:=y) (t:=t) (e:=nt) (sz:=1) (by_:=by_) (o:=q) (q:=p) (n:=n) (els:=xs.map eI) (g:=ζ) (nob:=(q,.row nt 1 (xs.map eI) ζ ζ)::nob) hrv (b9 _ _ _) (Sf hs ho) (by grind) hsz hb h63 cx E a w ok (λx' t' hm=>?_) (λl' ob' hm=>?_) hfr
 .rcases Yh.1 hm with e|hm
  .cases e
   have:=hne x _ (.head _)
   have:a.eval x= .slice (ς ⟨k,0,ξ⟩) n c:=this
   exact⟨k,c,hr,this⟩
  grind
 grind
theorem apk{nt by_ c:Nat}{xs zs:List Int}{cc:C}(ls:List Nat)[dB P t nt 1 by_](H:cN by_ (xs++zs).length=ζ)(hzd:zs.map eI=zd)(hn:xs.length=n)(hp:nM ob ls=ς nob)(hs:Src nob cc zd ζ)(hd:nlt d N=ζ)(hx:opT sl x= .v (.c (.d η (.k (ς ⟨k,0,ξ⟩) n c))))(hy:opT sl y= .v (.c cc))(ho:go nob q=ς (.abs l (Hid.loc nt (ς ⟨k,0,ξ⟩) n c xs)))(hrv:rsv q=η)(hnx:nxt nx=ς nx'):
 NX P N ⟨ς d,.call ⟨.builtin .append,#[x,y],#[t,t]⟩,tt,ps,af,gd⟩ ⟨sl,ob,nx⟩ ⟨(d,.v (.c (.w nx (xs++zs).length)))::sl,(nx,.row nt 1 ((xs++zs).map eI) ζ ζ)::ob,nx'⟩
  ⟨⟨d,[(x,.v (.c (.d η (.k (ς ⟨k,0,ξ⟩) n c)))),(y,.v (.c cc))],nob,.v (.c (.w nx (xs++zs).length)),[(nx,.row nt 1 ((xs++zs).map eI) ζ ζ)]⟩,[],ς q⟩:=by
 subst hzd
 simp only[cN,decide_eq_true_eq,YB] at H
 have:=Fu (P:=P) (d:=d) (tt:=tt) (ps:=ps) (af:=af) (gd:=gd) (x:=x) (y:=y) (t:=t) (nt:=nt) (by_:=by_) (p:=nx) (n:=n) hrv ho hs hn (by simp[eI]) (by simp_all) (by simp_all)
 rw[<-Y8,YA,<-hn,<-YB] at this
 exact⟨by simp_all,.inl ⟨rfl,cO hd⟩,⟨hx,hy,θ⟩,oE hp,mM hnx,rfl⟩
theorem Pa{nt by_:Nat}{zs:List Int}{cc:C}(ls:List Nat)[dB P t nt 1 by_](H:cN by_ zs.length=ζ)(hne:zs≠[])(hzd:zs.map eI=zd)(hp:nM ob ls=ς nob)(hs:Src nob cc zd ζ)(hd:nlt d N=ζ)(hx:opT sl x= .v (.c (.d η (.k ξ 0 0))))(hy:opT sl y= .v (.c cc))(hnx:nxt nx=ς nx'):
 NS P N ⟨ς d,.call ⟨.builtin .append,#[x,y],#[t,t]⟩,tt,ps,af,gd⟩ ⟨sl,ob,nx⟩ ⟨(d,.v (.c (.w nx zs.length)))::sl,(nx,.row nt 1 (zs.map eI) ζ ζ)::ob,nx'⟩
  ⟨d,[(x,.v (.c (.d η (.k ξ 0 0)))),(y,.v (.c cc))],nob,.v (.c (.w nx zs.length)),[(nx,.row nt 1 (zs.map eI) ζ ζ)]⟩:=by
 subst hzd
 simp only[cN,decide_eq_true_eq] at H
 have h1:=yA (P:=P) (d:=d) (ty:=tt) (ps:=ps) (af:=af) (gd:=gd) (x:=x) (y:=y) (t:=t) (e:=nt) (sz:=1) (by_:=by_) (q:=nx) hs (by simp_all) (by simp[eI]) (by simp_all) (by simp_all)
 rw[YA] at h1
 refine⟨λcx E a w ok hnd hnob hfr=>h1 cx E a w ok (λx' t' hm=>?_) hnob hfr,rfl,cO hd,⟨hx,hy,θ⟩,oE hp,mM hnx,rfl⟩
 rcases Yh.1 hm with e|hm
 .cases e
  have h:a.eval x= .slice ξ 0 0:=hnd x (.v (.c (.d η (.k ξ 0 0)))) (.head _)
  exact h
 simp_all
end
section
variable{P:Program}{N:Nat}{d:Tmp}{tt:TypeId}{ps:String}{af:Array Edge}{gd:Option (Nat×Bool)}{x y:Operand}{sl sl1 sl2:Lab}{ob ob1:Laa}{nx:Nat}{AQ:Exit->St->Prop}
theorem uu{o i s:Nat}{els:List (Int×List Int)}{hole:Jh}{e:Int×List Int}{ys:List Int}[ht:TyN P t 1](hx:opT sl x= .v (.c (.e o 2 i 1)))(hy:opT sl y= .v (.c (.w s n)))(ho:go ob o=ς (.cxo o ty nt els hole))(hs:go ob s=ς (.row nt 1 (ys.map eI) g ζ))(hn:ys.length=n)(he:els[i]?=ς e)(hh:hole=ξ\/∃A n k,hole=ς (i,A,n,k))(hrv:rsv s=η)(hso:f4 s o=η)(hol:nlt o nx=ζ)(h1:mf s sl=ς sl1)(h2:Aa s sl1=ς sl2)(h3:zt s (zt o ob)=ob1)(h4:okO s s ob1=ζ):
 AWO P N ⟨ξ,.store t x y,tt,ps,af,gd⟩ ⟨sl,ob,nx⟩ ⟨sl2,(o,.cxo o ty nt (els.set i (e.1,ys)) ξ)::ob1,nx⟩:=by
 intro cx E a w hR
 have hx1:=hR.op x;rw[hx] at hx1
 have hy1:=hR.op y;rw[hy] at hy1
 have ok:=hR.ok
 obtain⟨b,c,hr,hu⟩:=hx1
 obtain⟨hnn,b',c',hd,hr',hS,hF⟩:=AD he (hR.obs o _ ho)
 rw[hr] at hr';cases hr'
 obtain⟨bs,cs,hrs,hv⟩:=hy1
 obtain⟨bs',cs',arrs,hrs',hhs,has,hls,hcs,_,hrds,hFs,_⟩:=hR.obs s _ hs
 rw[hrs] at hrs';cases hrs'
 have hFs:=hFs rfl
 have hso:s≠o:=iN hso
 have hbb:bs≠b:=λe=>by subst e;exact hso (ok.inj _ _ _ _ _ hrs hr)
 have hil:i<els.length:=(Yc.1 he).1
 have hrow:=Ba.of hhs has hls hcs hrds
 obtain⟨arr,hh0,ha0⟩:=hS.blk
 have hvc:(a.eval y).cells= #[a.eval y]:=by rw[hv];rfl
 have hbound:i*2+1+1<=arr.size:=by have:=hS.len;omega
 have hrun:=rG (P:=P) (t:=t) (n:=1) (k:=i*2+1) (u:=a.eval y) (w:=w) (b:=b) (by rw[hvc];rfl) (by rw[hvc];simp;rw[hv];rfl) hh0 hbound
 unfold Oper.wp
 simp only[execOp,hu,Sem.run_bind,hrun,Result.andThen_ok,Sem.run_pure,Oper.upon_skip,Act.put]
 obtain⟨arr',harr'⟩:∃arr',arr'=(arr.toList.take (i*2+1)++(a.eval y).cells.toList++arr.toList.drop (i*2+1+1)).toArray:=⟨_,rfl⟩
 rw[<-harr']
 have hsz':arr'.size=arr.size:=by rw[harr',hvc];simp;omega
 have hget:∀j,arr'[j]?=if j=i*2+1 then ς (a.eval y) else arr[j]?:=by
  intro j
  rw[harr',Zz,lB (by rw[hvc];rfl) oaa,hvc]
  by_cases hj:j=i*2+1
  .simp_all
  grind
 have hw':=gL arr' hh0
 have hcell:∀j,j≠i*2+1->(w.setRow b arr').cell? ⟨b,j,ξ⟩=w.cell? ⟨b,j,ξ⟩:=λj hj=>by rw[d7 hw',d7 hh0,hget,if_neg hj]
 have ok1:da cx E (w.setRow b arr'):=ym ok hr hF
 have hk:=jt (cs:=arr') (w:=w) ok hr hF
 have hTb:∀l k,E.T l k->k≠b:=λl k h e=>by subst e;exact(ok.sf.tb l k h).2.2.1 o c hr
 have hTs:∀l,¬E.T l bs:=λl h=>(ok.sf.tb l bs h).2.2.1 s cs hrs
 have hsb:=ok1.rb s bs cs hrs
 have hnew:cx.w0.heap.size<=bs:=hsb.2.resolve_right (λh=>by simp_all)
 obtain⟨E',hE'⟩:∃E':Env,E'={E with r:=λl=>if l=s then ξ else E.r l,T:=λl k=>E.T l k\/(l=o/\k=bs)}:=⟨_,rfl⟩
 have e_r:∀l p,E'.r l=ς p↔l≠s/\E.r l=ς p:=λl p=>by
  simp_all
 have e_T:∀l k,E'.T l k↔E.T l k\/(l=o/\k=bs):=λl k=>by simp_all
 have e_F:E'.F=E.F:=by subst hE';rfl
 have e_G:E'.G=E.G:=by subst hE';rfl
 have e_Z:E'.Z=E.Z:=by subst hE';rfl
 have e_n:E'.n=E.n:=by subst hE';rfl
 have e_H:∀g,E'.H g=E.H g:=λg=>by cases g;exact e_F;exact e_G
 have ok':da cx E' (w.setRow b arr'):=by
  refine⟨by rw[e_F];exact ok1.fb,by rw[e_F,e_G];exact ok1.gf,by rw[e_G];exact ok1.gn,λl b c h=>ok1.rb l b c ((e_r _ _).1 h).2,λl l' b c c' h h'=>ok1.inj l l' b c c' ((e_r _ _).1 h).2 ((e_r _ _).1 h').2,ok1.os,ok1.tape,ok1.output,ok1.size,ok1.block,λl p hp h=>ok1.pin l p hp ((e_r _ _).1 h).2,by rw[e_F];exact ok1.ff,by rw[e_F];exact ok1.gc,⟨λl k h=>?_,λl l' k h h'=>?_,λk h=>?_,ok1.sf.zs,by rw[e_Z];exact ok1.sf.ze⟩⟩
  .rcases(e_T l k).1 h with h|⟨rfl,rfl⟩
   .obtain⟨h1,h2,h3,h4⟩:=ok1.sf.tb l k h
    simp_all
   refine⟨⟨hsb.1,hnew⟩,by simp_all,λo' c' h'=>?_,.mk (by rw[dw _ _ _ _ hbb];exact hhs)⟩
   obtain⟨h5,h6⟩:=(e_r _ _).1 h'
   exact h5 (ok.inj _ _ _ _ _ h6 hrs)
  .rcases(e_T l k).1 h with h|⟨rfl,rfl⟩<;>rcases(e_T l' k).1 h' with h'|⟨rfl,h'⟩
   .exact ok1.sf.tt l l' k h h'
   .simp_all
   .simp_all
   rfl
  obtain⟨h1,h2,h3,h4⟩:=ok1.sf.zc k h
  simp_all
 have kg:KG s s E w E' (w.setRow b arr'):=⟨λl p hl h=>(e_r _ _).2 ⟨hl,h⟩,λg k h=>by rw[e_H];exact h,λg k h=>hk.heap g k h,λl k _ h=>⟨(e_T l k).2 (.inl h),(hk.T l k h).2⟩,λk h=>⟨by simp_all,(hk.Z k h).2⟩,λl _=>by rw[e_n]⟩
 refine⟨E',F3 hR ok' kg h1 h2 h3 h4 ?_ (λl b' c' hl hlo hrl=>dw _ _ _ _ (λe=>by subst e;exact hlo (ok.inj _ _ _ _ _ hrl hr))) (λl b' c' _ _ _ hf=>by simp_all) (λl p h=>hR.dom l p ((e_r _ _).1 h).2) (λl k h=>?_)⟩
 .refine .inr ⟨by simp_all,b,c,(e_r _ _).2 ⟨Ne.symm hso,hr⟩,⟨λj=>if j=i then ς (bs,cs) else hd j,⟨arr',hw',by omega⟩,by simpa using hS.len,hS.cap,λj ej hj=>?_,λj ej hj _=>?_,λj ej hj _=>?_,λj j' k c1 c2 hj hj' _ _ q1 q2=>?_,λ_ _ _ _ h=>by cases h⟩,by simp_all⟩
  .rw[hcell _ oaa]
   rw[Zx] at hj
   by_cases e1:i=j
   .subst e1
    rw[if_pos rfl,if_pos hil] at hj;cases hj
    exact hS.a i e he
   rw[if_neg e1] at hj;exact hS.a j ej hj
  .rw[Zx] at hj
   by_cases e1:i=j
   .subst e1
    rw[if_pos rfl,if_pos hil] at hj;cases hj
    rw[d7 hw',hget,if_pos rfl,if_pos rfl,hv,hn];rfl
   rw[if_neg e1] at hj
   rw[hcell _ oaa,if_neg (Ne.symm e1)]
   refine hS.s j ej hj ?_
   rcases hh with rfl|⟨A,n',k',rfl⟩
   .rfl
   exact jo e1
  .rw[Zx] at hj
   by_cases e1:i=j
   .subst e1
    rw[if_pos rfl,if_pos hil] at hj;cases hj
    rw[if_pos rfl]
    exact⟨(e_T o bs).2 (.inr ⟨rfl,rfl⟩),hrow.keep (dw _ _ _ _ hbb)⟩
   rw[if_neg e1] at hj
   rw[if_neg (Ne.symm e1)]
   refine(hS.ne j ej hj ?_).keep (λk c' _ hk'=>(e_T o k).2 (.inl hk')) (λk c' _ hk'=>dw _ _ _ _ (hTb o k hk'))
   rcases hh with rfl|⟨A,n',k',rfl⟩
   .rfl
   exact jo e1
  have hole_ne:∀j,j≠i->xD hole j=false:=λj hj=>by
   rcases hh with rfl|⟨A,n',k',rfl⟩
   .rfl
   exact jo (Ne.symm hj)
  have hR':∀j,j≠i->j<els.length->∀k c',hd j=ς (k,c')->E.T o k:=λj hj hjl k c' hdj=>by
   have:=hS.ne j _ (List.getElem?_eq_getElem hjl) (hole_ne j hj)
   rw[hdj] at this
   exact this.1
  have hj:j<els.length:=by simpa using hj
  have hj':j'<els.length:=by simpa using hj'
  by_cases e1:j=i<;>by_cases e2:j'=i
  .rw[e1,e2]
  .grind
  .grind
  rw[if_neg e1] at q1;rw[if_neg e2] at q2
  exact hS.inj j j' k c1 c2 hj hj' (hole_ne j e1) (hole_ne j' e2) q1 q2
 rcases(e_T l k).1 h with h|⟨rfl,_⟩
 .exact hR.td l k h
 exact cO hol
end
section
variable{P:Program}{N:Nat}{sl sl1 sl2:Lab}{ob ob1:Laa}{nx:Nat}{AQ:Exit->St->Prop}
theorem UN{cx:Cx}{a:Act}{o:Nat}{z:Ob}(hR:Rel N cx E ⟨sl,ob,nx⟩ a w)(hz:cB E w o z):Rel N cx E ⟨sl,(o,z)::ob,nx⟩ a w:=
 ⟨hR.ok,hR.dom,λl x h=>by
  by_cases e:o=l
  .subst e;rw[b9] at h;simp_all
  rw[bG _ _ e] at h;exact hR.obs l x h,hR.sl,hR.dfr,hR.size,hR.td⟩
theorem uK{c:Code}{o i:Nat}{els:List (Int×List Int)}{e:Int×List Int}(ho:go ob o=ς (.cxo o ty nt els ξ))(he:els[i]?=ς e)(hol:nlt o nx=ζ)(hrv:rsv nx=η)(h1:mf nx sl=ς sl1)(h2:Aa o sl1=ς sl2)(h3:zt nx (zt o ob)=ob1)(h4:okO nx o ob1=ζ)(hnil:e.2=[]->AWC P N c ⟨sl2,(o,.cxo o ty nt els (ς (i,ξ,0,0)))::ob1,nx⟩ AQ)(hcons:∀k cc,AWC P N c ⟨sl2,(nx,.abs nx (Hid.loc nt (ς ⟨k,0,ξ⟩) e.2.length cc e.2))::(o,.cxo o ty nt els (ς (i,ς ⟨k,0,ξ⟩,e.2.length,cc)))::ob1,nx+1⟩ AQ):AWC P N c ⟨sl,ob,nx⟩ AQ:=by
 intro cx E a w hR
 have ok:=hR.ok
 obtain⟨hnn,b,cb,hd,hr,hS,hF⟩:=AD he (hR.obs o _ ho)
 have hil:i<els.length:=(Yc.1 he).1
 have hs0:=hS.s i e he rfl
 have hn0:=hS.ne i e he rfl
 cases hdi:hd i with
 |none=>
  rw[hdi] at hs0 hn0
  refine hnil hn0 cx E a w (F3 hR ok ⟨λ_ _ _ h=>h,λ_ _ h=>h,λ_ _ _=>rfl,λ_ _ _ h=>⟨h,rfl⟩,λb _=>⟨by assumption,pM.refl w b⟩,λ_ _=>Iff.rfl⟩ h1 h2 h3 h4 (.inr ⟨hnn,b,cb,hr,⟨hd,hS.blk,hS.len,hS.cap,hS.a,λj ej hj _=>hS.s j ej hj rfl,λj ej hj _=>hS.ne j ej hj rfl,λj j' k c1 c2 hj hj' _ _=>hS.inj j j' k c1 c2 hj hj' rfl rfl,λj A n k h=>?_⟩,hF⟩) (λ_ _ _ _ _ _=>rfl) (λ_ _ _ _ _ _ h=>h) hR.dom hR.td)
  cases h
  exact hs0
 |some p=>
  obtain⟨k,cc⟩:=p
  rw[hdi] at hs0 hn0
  obtain⟨hTk,hrow⟩:=hn0
  obtain⟨t1,t2,t3,t4⟩:=ok.sf.tb o k hTk
  obtain⟨E',hE'⟩:∃E':Env,E'={E with r:=λl=>if l=nx then ς (k,cc) else E.r l,T:=λl j=>E.T l j/\j≠k,n:=λl=>l≠nx/\E.n l}:=⟨_,rfl⟩
  have e_r:∀l p,E'.r l=ς p↔(l=nx/\p=(k,cc))\/(l≠nx/\E.r l=ς p):=λl p=>by
   subst hE'
   grind
  have e_T:∀l j,E'.T l j↔E.T l j/\j≠k:=λl j=>by simp_all
  have e_F:E'.F=E.F:=by subst hE';rfl
  have e_G:E'.G=E.G:=by subst hE';rfl
  have e_Z:E'.Z=E.Z:=by subst hE';rfl
  have e_n:∀l,E'.n l↔l≠nx/\E.n l:=λl=>by simp_all
  have e_H:∀g,E'.H g=E.H g:=λg=>by cases g;exact e_F;exact e_G
  have hnx:∀l p,E.r l=ς p->l≠nx:=λl p h=>ZR (hR.dom l p h)
  have hon:o≠nx:=ZR (cO hol)
  have ok':da cx E' w:=by
   refine⟨by rw[e_F];exact ok.fb,by rw[e_F,e_G];exact ok.gf,by rw[e_G];exact ok.gn,λl j c h=>?_,λl l' j c c' h h'=>?_,ok.os,ok.tape,ok.output,ok.size,ok.block,λl p hp h=>?_,by rw[e_F];exact ok.ff,by rw[e_F];exact ok.gc,⟨λl j h=>?_,λl l' j h h'=>ok.sf.tt l l' j ((e_T _ _).1 h).1 ((e_T _ _).1 h').1,λj h=>?_,ok.sf.zs,by rw[e_Z];exact ok.sf.ze⟩⟩
   .rcases(e_r _ _).1 h with⟨rfl,hp⟩|⟨_,h⟩
    .simp_all
    exact ok.rb l j c h
   .rcases(e_r _ _).1 h with⟨rfl,hp⟩|⟨q1,h⟩<;>rcases(e_r _ _).1 h' with⟨rfl,hp'⟩|⟨q2,h'⟩
    .rfl
    .simp_all
    .simp_all
    exact ok.inj l l' j c c' h h'
   .rcases(e_r _ _).1 h with⟨rfl,hp'⟩|⟨_,h⟩
    .rw[pk hrv] at hp;cases hp
    exact ok.pin l p hp h
   .obtain⟨h,hj⟩:=(e_T _ _).1 h
    obtain⟨u1,u2,u3,u4⟩:=ok.sf.tb l j h
    simp_all
   obtain⟨u1,u2,u3,u4⟩:=ok.sf.zc j h
   grind
  have kg:KG nx o E w E' w:=⟨λl p hl h=>(e_r _ _).2 (.inr ⟨hl,h⟩),λg j h=>by rw[e_H];exact h,λ_ _ _=>rfl,λl j hl h=>⟨(e_T _ _).2 ⟨h,λe=>by subst e;exact hl (ok.sf.tt l o j h hTk)⟩,rfl⟩,λj h=>⟨by simp_all,pM.refl w j⟩,λl hl=>by simp_all⟩
  refine hcons k cc cx E' a w (UN (F3 hR ok' kg h1 h2 h3 h4 (.inr ⟨by simp_all,b,cb,(e_r _ _).2 (.inr ⟨hon,hr⟩),⟨hd,hS.blk,hS.len,hS.cap,hS.a,λj ej hj _=>hS.s j ej hj rfl,λj ej hj hjh=>(hS.ne j ej hj rfl).keep (λk' c' hk' hT=>(e_T o k').2 ⟨hT,λek=>?_⟩) (λ_ _ _ _=>rfl),λj j' k c1 c2 hj hj' _ _=>hS.inj j j' k c1 c2 hj hj' rfl rfl,λj A n k' h=>?_⟩,by simp_all⟩)
   (λ_ _ _ _ _ _=>rfl) (λl b' c' _ _ _ h=>by simp_all) (λl p h=>?_) (λl j h=>ZP (hR.td l j ((e_T _ _).1 h).1))) (.inr ⟨by simp_all,k,cc,(e_r _ _).2 (.inl ⟨rfl,rfl⟩),⟨rfl,rfl,rfl,hrow⟩,by simp_all⟩))
  .subst ek
   have:=hS.inj j i k' c' cc (Yc.1 hj).1 hil rfl rfl hk' hdi
   subst this
   simp[xD] at hjh
  .cases h;exact hs0
  rcases(e_r _ _).1 h with⟨rfl,_⟩|⟨_,h⟩
  .omega
  exact ZP (hR.dom l p h)
theorem MO{o:Nat}{al:List Int}(ho:go ob o=ς (.rown ty 2 (al.map λa=>[.i .i64 a,.k ξ 0 0]) g))(h3:zt o ob=ob1):cM N ⟨sl,ob,nx⟩ ⟨sl,(o,.cxo o ty nt (al.map λa=>(a,[])) ξ)::ob1,nx⟩:=by
 subst h3
 intro cx E a w hR
 refine⟨E,hR.ok,hR.dom,λl x h=>?_,hR.sl,hR.dfr,hR.size,hR.td⟩
 by_cases e:o=l
 .subst e
  rw[b9] at h;cases h
  rcases hR.obs o _ ho with⟨h0,h1⟩|⟨h0,b,c,arr,hr,hh,h1,h2,h3,h4,h5,h6⟩
  .refine .inl ⟨h0,?_⟩
   show al.map _=[]
   simp_all
  have key:∀i e,(al.map λa=>((a,[]):Int×List Int))[i]?=ς e->w.cell? ⟨b,i*2,ξ⟩=ς (.int .i64 e.1)/\w.cell? ⟨b,i*2+1,ξ⟩=ς (.slice ξ 0 0)/\e.2=[]:=by
   intro i e hi
   rw[YM] at hi
   cases ha:al[i]? with
   |none=>simp_all
   |some x=>
    rw[ha] at hi;cases hi
    have:=oi (sz:=2) (i:=i) (e:=[.i .i64 x,.k ξ 0 0]) h5 h4 (by simp_all)
    rw[rdL,rdL] at this
    obtain⟨⟨u,u1,u2⟩,⟨v,v1,v2⟩,_⟩:=this
    simp only[rdD] at u2 v2
    simp_all
  refine .inr ⟨h0,b,c,hr,⟨λ_=>ξ,⟨arr,hh,h1⟩,by simp_all,h3,λi e hi=>(key i e hi).1,λi e hi _=>?_,λi e hi _=>(key i e hi).2.2,λ_ _ _ _ _ _ _ _ _ h=>(by cases h),λ_ _ _ _ h=>(by cases h)⟩,h6⟩
  rw[(key i e hi).2.2];exact(key i e hi).2.1
 rw[bG _ _ e] at h
 exact hR.obs l x (yi h).2
def PP(e:Int×List Int):List D:=[.i .i64 e.1,.l (e.2.map eI)]
theorem ug{o:Nat}{els:List (Int×List Int)}(ho:go ob o=ς (.cxo o ty nt els ξ))(h1:mf nx sl=ς sl1)(h2:Aa o sl1=ς sl2)(h3:zt nx (zt o ob)=ob1)(h4:okO nx o ob1=ζ):
 cM N ⟨sl,ob,nx⟩ ⟨sl2,(o,.rown ty 2 (els.map PP) ζ)::ob1,nx⟩:=by
 intro cx E a w hR
 have ok:=hR.ok
 obtain⟨E',hE'⟩:∃E':Env,E'={E with F:=λj=>E.F j\/E.T o j,G:=λj=>E.G j\/E.T o j,T:=λl j=>l≠o/\E.T l j}:=⟨_,rfl⟩
 have e_T:∀l j,E'.T l j↔l≠o/\E.T l j:=λl j=>by simp_all
 have e_F:∀j,E'.F j↔E.F j\/E.T o j:=λj=>by simp_all
 have e_G:∀j,E'.G j↔E.G j\/E.T o j:=λj=>by simp_all
 have e_r:E'.r=E.r:=by subst hE';rfl
 have e_Z:E'.Z=E.Z:=by subst hE';rfl
 have e_n:E'.n=E.n:=by subst hE';rfl
 have ok':da cx E' w:=by
  refine⟨λj h=>?_,λj h=>?_,λj h=>?_,by rw[e_r];exact ok.rb,by rw[e_r];exact ok.inj,ok.os,ok.tape,ok.output,ok.size,ok.block,by rw[e_r];exact ok.pin,λj h=>?_,λj h h'=>?_,⟨λl j h=>?_,λl l' j h h'=>ok.sf.tt l l' j ((e_T _ _).1 h).2 ((e_T _ _).1 h').2,λj h=>?_,ok.sf.zs,by rw[e_Z];exact ok.sf.ze⟩⟩
  .rcases(e_F j).1 h with h|h
   .exact ok.fb j h
   exact(ok.sf.tb o j h).1.1
  .rcases(e_G j).1 h with h|h
   .exact(e_F j).2 (.inl (ok.gf j h))
   simp_all
  .rcases(e_G j).1 h with h|h
   .exact ok.gn j h
   exact .inl (ok.sf.tb o j h).1.2
  .rcases(e_F j).1 h with h|h
   .exact ok.ff j h
   exact .inr (ok.sf.tb o j h).1.2
  .rcases(e_F j).1 h with h|h
   .exact ok.gc j h h'
   exact(ok.sf.tb o j h).2.2.2
  .obtain⟨hl,h⟩:=(e_T _ _).1 h
   obtain⟨u1,u2,u3,u4⟩:=ok.sf.tb l j h
   refine⟨u1,λhf=>?_,by simp_all,u4⟩
   rcases(e_F j).1 hf with hf|hf
   .exact u2 hf
   exact hl (ok.sf.tt l o j h hf)
  obtain⟨u1,u2,u3,u4⟩:=ok.sf.zc j h
  refine⟨u1,λhf=>?_,by simp_all,u4⟩
  rcases(e_F j).1 hf with hf|hf
  .exact u2 hf
  have:=(ok.sf.tb o j hf).1.2;omega
 have hFr:∀l b c,E.r l=ς (b,c)->¬E.F b->¬E'.F b:=λl b c hr hn hf=>by
  rcases(e_F b).1 hf with hf|hf
  .exact hn hf
  exact(ok.sf.tb o b hf).2.2.1 l c hr
 have kg:KG nx o E w E' w:=⟨λl p _ h=>by simp_all,λg j h=>by cases g;exact(e_F j).2 (.inl h);exact(e_G j).2 (.inl h),λ_ _ _=>rfl,λl j hl h=>⟨(e_T _ _).2 ⟨hl,h⟩,rfl⟩,λj h=>⟨by simp_all,pM.refl w j⟩,λl _=>by rw[e_n]⟩
 refine⟨E',F3 hR ok' kg h1 h2 h3 h4 ?_ (λ_ _ _ _ _ _=>rfl) (λl b c _ _ hr=>hFr l b c hr) (by rw[e_r];exact hR.dom) (λl j h=>hR.td l j ((e_T _ _).1 h).2)⟩
 rcases hR.obs o _ ho with⟨h0,h0'⟩|⟨h0,b,c,hr,⟨hd,hS⟩,hF⟩
 .have h0':els=[]:=h0'
  exact .inl ⟨by simp_all,by rw[h0'];rfl⟩
 obtain⟨arr,hh,ha⟩:=hS.blk
 refine .inr ⟨by simp_all,b,c,arr,by simp_all,hh,ha,by simpa using hS.len,hS.cap,(λe he=>by obtain⟨x,_,rfl⟩:=Y3.1 he;rfl),tN (sz:=2) (λe he=>by obtain⟨x,_,rfl⟩:=Y3.1 he;rfl) λi e hi=>?_,hFr o b c hr hF⟩
 rw[YM] at hi
 cases hx:els[i]? with
 |none=>simp_all
 |some x=>
  rw[hx] at hi;cases hi
  rw[PP,rdL,rdL,rdL,Yl]
  refine⟨⟨_,hS.a i x hx,by rw[rdD]⟩,⟨_,hS.s i x hx rfl,?_⟩,θ⟩
  have hne:=hS.ne i x hx rfl
  rw[rdD]
  cases hdi:hd i with
  |none=>
   rw[hdi] at hne
   have hne:x.2=[]:=hne
   rw[hne];exact⟨ξ,0,rfl,Yj _,.inl rfl⟩
  |some p=>
   obtain⟨k,cc⟩:=p
   rw[hdi] at hne
   exact⟨ς ⟨k,0,ξ⟩,cc,by simp[nv],by simpa using hne.2.2.1,.inr ⟨k,0,rfl,(e_G k).2 (.inr hne.1),hne.2.rd _⟩⟩
end
def QF(f:C->Option C):Ob->Option Ob
 | .abs l h=>ς (.abs l h)
 |x=>Dp f x
theorem LQ{f:C->Option C}{o:Nat}(h:QF f x=ς y)(hf:∀c c' u,f c=ς c'->cvC E w c u->cvC E' w c' u)(hr:∀p,E.r l=ς p->E'.r o=ς p)(hn:E'.n o↔E.n l)(hH:∀g b,E.H g b->E'.H g b)(hF:∀b,¬E.F b->¬E'.F b)(hT:∀j z,x= .abs j z->∀b,E.T j b->E'.T j b)(hx:cB E w l x):cB E' w o y:=by
 cases x with
 |abs j z=>
  cases h
  rcases hx with⟨h1,h2⟩|⟨h1,b,c,k1,k2,k3⟩
  .exact .inl ⟨hn.2 h1,h2⟩
  exact .inr ⟨λk=>h1 (hn.1 k),b,c,hr _ k1,z.st _ _ _ _ w w k2 (hT j z rfl) rfl (λ_ _=>rfl),hF b k3⟩
 |var t cs=>exact yN (x:=.var t cs) h hf (λb c _ hr'=>hr _ hr') hn hH (λb c _ _=>hF b) hx
 |row t sz els g m=>exact yN (x:=.row t sz els g m) h hf (λb c _ hr'=>hr _ hr') hn hH (λb c _ _=>hF b) hx
 |rown t sz els g=>exact yN (x:=.rown t sz els g) h hf (λb c _ hr'=>hr _ hr') hn hH (λb c _ _=>hF b) hx
def H7(f:C->Option C)(ob:Laa):Lac->Option Laa
 |[]=>ς []
 |(k,o)::r=>match go ob o with
  |some x=>match QF f x,H7 f ob r with
   |some y,ς ys=>ς ((k,y)::ys)
   |_,_=>ξ
  |none=>ξ
theorem H8{f:C->Option C}{ob:Laa}:∀{m:Lac} {xs:Laa} {l:Nat} {x:Ob},H7 f ob m=ς xs->go xs l=ς x->∃o x0,dJ m l=ς o/\go ob o=ς x0/\QF f x0=ς x
 |[],xs,l,x,h,hg=>by simp[H7] at h;subst h;cases hg
 |(k,o)::r,xs,l,x,h,hg=>by
  simp only[H7] at h
  split at h
  .rename_i x0 h0
   split at h
   .rename_i y ys h1 h2
    simp at h;subst h
    by_cases e:k=l
    .subst e;rw[b9] at hg;cases hg;exact⟨o,x0,by simp[dJ],h0,h1⟩
    rw[bG _ _ e] at hg
    obtain⟨o',x',a1,a2,a3⟩:=H8 h2 hg
    exact⟨o',x',by simp only[dJ,jo e];exact a1,a2,a3⟩
   cases h
  cases h
def QG(m:Lac):Laa->Option Laa
 |[]=>ς []
 |(k,x)::r=>match dJ m k,QF (rlC m) x,QG m r with
  |some o,ς y,ς ys=>ς ((o,y)::ys)
  |_,_,_=>ξ
theorem LS{m:Lac}(hinj:∀a a' b,dJ m a=ς b->dJ m a'=ς b->a=a'):∀{ys ys':Laa} {o:Nat} {y':Ob},QG m ys=ς ys'->go ys' o=ς y'->∃k y,dJ m k=ς o/\go ys k=ς y/\QF (rlC m) y=ς y'
 |[],ys',o,y',h,hg=>by simp[QG] at h;subst h;cases hg
 |(k,x)::r,ys',o,y',h,hg=>by
  simp only[QG] at h
  split at h
  .rename_i o1 y1 ys1 h1 h2 h3
   simp at h;subst h
   by_cases e:o1=o
   .subst e;rw[b9] at hg;cases hg;exact⟨k,x,h1,b9 _ _ _,h2⟩
   rw[bG _ _ e] at hg
   obtain⟨k',y,a1,a2,a3⟩:=LS hinj h3 hg
   have hne:k≠k':=λe'=>by simp_all
   exact⟨k',y,a1,by rw[bG _ _ hne];exact a2,a3⟩
  cases h
def kpC(pn:Lac):C->C
 | .p o k=>match dJ pn o with
  |some _=>.p o k
  |none=>.any
 | .d _ (.i k n)=>.d η (.i k n)
 | .d _ (.b b)=>.d η (.b b)
 | .d _ (.str s)=>.d η (.str s)
 |_=>.any
def kpT(pn:Lac):T->T
 | .v (.c c)=>.v (.c (kpC pn c))
 |_=>.any
def kpS(pn:Lac):Lab->Lab
 |[]=>[]
 |(k,t)::r=>(k,kpT pn t)::kpS pn r
theorem Qz(pn:Lac):∀(sl:Lab) (k:Nat),gt (kpS pn sl) k=kpT pn (gt sl k)
 |[],k=>rfl
 |(j,t)::r,k=>by
  rw[kpS]
  by_cases e:j=k
  .subst e;rw[cW,cW]
  rw[cy _ _ e,cy _ _ e];exact Qz pn r k
def WG(m:Lac)(p:Nat×Nat):Bool:=m.any λq=>f4 q.1 p.1&&f4 q.2 p.2
theorem FE{m:Lac}{p:Nat×Nat}(h:WG m p=ζ):p∈m:=by
 obtain⟨q,h1,h2⟩:=YF.1 h
 simp only[hV] at h2
 have a:=Yf h2.1
 have b:=Yf h2.2
 grind
def VF(m m':Lac)(ys:Laa)(nx nx':Nat):Bool:=
 lM (m.map (·.1))&&lM (m.map (·.2))&&lM (m'.map (·.1))&&lM (m'.map (·.2))&&
 m.all (λp=>nlt p.1 nx&&(!rsv p.2||rsv p.1)&&(!rsp p.1||WG m' p&&match go ys p.1 with|some (.var _ _)=>ζ|_=>η))&&
 m'.all (λp=>nlt p.2 nx'&&((rsp p.1&&WG m p)||(!rsv p.1&&!rsv p.2)))
def Bb(n:Nat):Laa->Bool
 |[]=>ζ
 |(_,.abs j _)::r=>nlt j n&&Bb n r
 |_::r=>Bb n r
theorem Bc{n k j:Nat}{z:Hid}:∀{ob:Laa},Bb n ob=ζ->go ob k=ς (.abs j z)->j<n
 |[],_,h=>by cases h
 |(k',x)::r,h0,h=>by
  by_cases e:k'=k
  .subst e;rw[b9] at h;cases h
   simp only[Bb,hV] at h0;exact cO h0.1
  rw[bG _ _ e] at h
  cases x<;>first|(simp only[Bb,hV] at h0;exact Bc h0.2 h)|(simp only[Bb] at h0;exact Bc h0 h)
def pinned(m:Lac):Lac:=(m.filter λp=>rsp p.1).map λp=>(p.2,p.1)
theorem Q0{N':Nat}{d:Tmp}{ps:String}{af:Array Edge}{gd:Option (Nat×Bool)}{c:Code}{args:List Operand}{tys:Array TypeId}{ob obs2:Laa}{ts ts2:List T}{ys ys':Laa}{out':T}{m m':Lac}(hf:P.funcs[f]?=ς fn)(hb:fn.body=ς c)(hnm:(fn.name== "runtime.NumGoroutine")=η)(hN:fn.ntmps=N')(hrs:fn.results.toList=rs)(h:AWC P N' c ⟨sl0,obs2,nx⟩ (md N' P rs ys out []))(ht:pj sl args=ς ts)(ha:p6 (rlC (inv m)) ts=ς ts2)(hle:Yk ts2.length N'=ζ)(hs0:tk 0 ts2=sl0)(hx:H7 (rlC (inv m)) ob m=ς obs2)(hm:VF m m' ys nx nx'=ζ)(hj:Bb nx' ys=ζ)(hy:QG m' ys=ς ys')(ho:wV (rlC m') out=ς out')(hs:kpS (pinned m) sl=sl')(hd:nlt d N=ζ):
 AWO P N ⟨ς d,.call ⟨.value (.func f),args.toArray,tys⟩,ty,ps,af,gd⟩ ⟨sl,ob,nx⟩ ⟨(d,out')::sl',ys',nx'⟩:=by
 subst hs0;subst hrs;subst hs
 intro cx E a w hR
 have ok:=hR.ok
 obtain⟨t1,t2⟩:=qS ht
 simp only[VF,hV,Yi,Yw,Yz] at hm
 obtain⟨⟨⟨⟨⟨hm1,hm2⟩,hm3⟩,hm4⟩,hm5⟩,hm6⟩:=hm
 have ndm1:=jN hm1
 have ndm2:=jN hm2
 have ndm3:=jN hm3
 have ndm4:=jN hm4
 have inv_of:∀{k o},dJ m k=ς o->dJ (inv m) o=ς k:=λh=>i7 (by rw[uX];exact ndm2) (ph.2 (d8 h))
 have of_inv:∀{k o},dJ (inv m) o=ς k->dJ m k=ς o:=λh=>i7 ndm1 (ph.1 (d8 h))
 have inv_of':∀{k o},dJ m' k=ς o->dJ (inv m') o=ς k:=λh=>i7 (by rw[uX];exact ndm4) (ph.2 (d8 h))
 have of_inv':∀{k o},dJ (inv m') o=ς k->dJ m' k=ς o:=λh=>i7 ndm3 (ph.1 (d8 h))
 obtain⟨E2,hE2⟩:∃E2:Env,E2={E with r:=λk=>match dJ m k with|some o=>E.r o|none=>ξ,n:=λk=>match dJ m k with|some o=>E.n o|none=>False}:=⟨_,rfl⟩
 have e_r:∀k o,dJ m k=ς o->E2.r k=E.r o:=λk o h=>by simp_all
 have e_n:∀k o,dJ m k=ς o->(E2.n k↔E.n o):=λk o h=>by simp_all
 have e_r':∀k p,E2.r k=ς p->∃o,dJ m k=ς o/\E.r o=ς p:=λk p h=>by
  subst hE2
  grind
 have e_F:E2.F=E.F:=by subst hE2;rfl
 have e_G:E2.G=E.G:=by subst hE2;rfl
 have e_T:E2.T=E.T:=by subst hE2;rfl
 have e_Z:E2.Z=E.Z:=by subst hE2;rfl
 have e_H:∀g,E2.H g=E.H g:=λg=>by cases g;exact e_F;exact e_G
 let cx2:Cx:=⟨cx.w0,cx.W,E2.r,cx.F0,cx.Z,cx.gw,cx.G0⟩
 have ok2:da cx2 E2 w:=by
  refine⟨by rw[e_F];exact ok.fb,by rw[e_F,e_G];exact ok.gf,by rw[e_G];exact ok.gn,λk b c h=>?_,λk k' b c c' h h'=>?_,ok.os,ok.tape,ok.output,ok.size,ok.block,λ_ _ _ h=>h,by rw[e_F];exact ok.ff,by rw[e_F];exact ok.gc,⟨λl b h=>?_,by rw[e_T];exact ok.sf.tt,λb h=>?_,ok.sf.zs,by rw[e_Z];exact ok.sf.ze⟩⟩
  .obtain⟨o,h1,h2⟩:=e_r' k _ h
   obtain⟨h3,h4⟩:=ok.rb o b c h2
   refine⟨h3,h4.imp id λ⟨q1,q2⟩=>⟨q1,?_⟩⟩
   rcases(hm5 _ (d8 h1)).1.2 with h|h
   .simp_all
   exact h
  .obtain⟨o,h1,h2⟩:=e_r' k _ h
   obtain⟨o',h1',h2'⟩:=e_r' k' _ h'
   have:=ok.inj o o' b c c' h2 h2';grind
  .rw[e_T] at h
   obtain⟨h1,h2,h3,h4⟩:=ok.sf.tb l b h
   grind
  obtain⟨h1,h2,h3,h4⟩:=ok.sf.zc b h
  grind
 have hin:∀c c' u,rlC (inv m) c=ς c'->cvC E w c u->cvC E2 w c' u:=by
  intro c c' u h hc
  cases c with
  |d g x=>cases h;exact cm (λ_ _=>rfl) (λb hb=>by rw[e_H];exact hb) _ _ hc
  |nil=>cases h;exact hc
  |any=>cases h;trivial
  |fn f=>cases h;exact hc
  |w l n=>
   simp only[rlC] at h
   split at h
   .rename_i k h1;cases h
    obtain⟨b,cc,q1,q2⟩:=hc
    exact⟨b,cc,(e_r k l (of_inv h1)).trans q1,q2⟩
   cases h
  |wn l n=>
   simp only[rlC] at h
   split at h
   .rename_i k h1;cases h
    rcases hc with⟨q0,q1⟩|⟨q0,b,cc,q1,q2⟩
    .exact .inl ⟨(e_n k l (of_inv h1)).2 q0,q1⟩
    exact .inr ⟨λq=>q0 ((e_n k l (of_inv h1)).1 q),b,cc,(e_r k l (of_inv h1)).trans q1,q2⟩
   cases h
  |p l n=>
   simp only[rlC] at h
   split at h
   .rename_i k h1;cases h
    obtain⟨b,cc,q1,q2⟩:=hc
    exact⟨b,cc,(e_r k l (of_inv h1)).trans q1,q2⟩
   cases h
  |s l x y z=>
   simp only[rlC] at h
   split at h
   .rename_i k h1;cases h
    obtain⟨A,q,b,cc,q1,q2⟩:=hc
    exact⟨A,q,b,cc,(e_r k l (of_inv h1)).trans q1,q2⟩
   cases h
  |_=>cases h
 have hTV:TV E2 w ts2 (args.map a.eval):=B6 hin ha t1 (λx t hm=>by have:=hR.op x;rwa [Lk.mem t2 x t hm] at this)
 obtain⟨v1,v2⟩:=Az 0 hTV
 have hle':ts2.length<=N':=YJ hle
 obtain⟨vals,hvals⟩:∃vals:Array Value,vals=(args.map a.eval).toArray:=⟨_,rfl⟩
 have hsz:vals.size=ts2.length:=by rw[hvals];simpa using v1
 have hR2:Rel N' cx2 E2 ⟨tk 0 ts2,obs2,nx⟩ {tmps:=vals++Ym (fn.ntmps-vals.size) undef,defers:=[]} w:=by
  refine⟨ok2,λk p h=>?_,λk x h=>?_,λk=>?_,rfl,by simp;omega,λl b h=>by rw[e_T] at h;exact hR.td l b h⟩
  .obtain⟨o,h1,_⟩:=e_r' k p h
   exact cO (hm5 _ (d8 h1)).1.1
  .obtain⟨o,x0,h1,h2,h3⟩:=H8 hx h
   exact LQ h3 hin (λp hp=>(e_r k o h1).trans hp) (e_n k o h1) (λg b hb=>by rw[e_H];exact hb) (λb hb=>by simp_all) (λj z _ b hb=>by simp_all) (hR.obs o x0 h2)
  by_cases hk:k<ts2.length
  .obtain⟨u,h3,h4⟩:=(v2 k).1 ⟨Yu _,by omega⟩
   have:(vals++Ym (fn.ntmps-vals.size) undef).getD k undef=u:=by
    have h5:vals[k]?=ς u:=by rw[hvals];simpa using h3
    have h6:(vals++Ym (fn.ntmps-vals.size) undef)[k]?=ς u:=by rw[Zf oaa];exact h5
    simp[h6]
   grind
  have:=(v2 k).2 oaa
  show cvT _ w (gt (tk 0 ts2) k) _
  rw[this];trivial
 have hwp:=h cx2 E2 _ w hR2
 have hcalls:Calls P f vals w λe w'=>∃v E',e= .returned v/\da cx2 E' w'/\cvT E' w' out v/\(∀l y,go ys l=ς y->cB E' w' l y):=by
  refine calls_of_wp hf hb (wp_mono hwp ?_)
  rintro e a' w' ⟨E',s',hR',hq⟩
  have fin:(∃s'' vs,cM N' s' s''/\ki P s'' fn.results.toList vs/\JX vs=out/\LoA s''.ob ys/\LoA s''.ob [])->
   a'.defers=[]/\∃v,(results fn a'.tmps).run P w'= .ok v w'/\∃v' E',Ending.returned v= .returned v'/\da cx2 E' w'/\cvT E' w' out v'/\(∀l y,go ys l=ς y->cB E' w' l y):=by
   rintro⟨s'',vs,hw,hres,ho,hys,_⟩
   obtain⟨E'',hR''⟩:=hw _ _ _ _ hR'
   obtain⟨us,k1,k2⟩:=uI hR'' hres
   have hmm:(fn.results.mapM (lR a'.tmps)).run P w'= .ok us.toArray w':=by
    rw[<-YQ (xs:=fn.results),List.mapM_toArray]
    simp only[Sem.run_map,k1]
    rfl
   have hrr:results fn a'.tmps=(fn.results.mapM (lR a'.tmps))>>= λvs=>pure (if h:vs.size=1 then vs[0] else .tuple vs):=rfl
   have hv:∃v,(results fn a'.tmps).run P w'= .ok v w'/\cvT E'' w' out v:=by
    subst ho
    match vs,us,k2 with
    |[],[],_=>exact⟨.tuple #[],by simp_all,#[],rfl,θ⟩
    |[v],[u],k2=>exact⟨u,by simp_all,k2.1⟩
    |v1::v2::vs,u1::u2::us,k2=>exact⟨.tuple (u1::u2::us).toArray,by simp_all,_,rfl,k2⟩
   obtain⟨v,q1,q2⟩:=hv
   exact⟨hR''.dfr,v,q1,v,E'',rfl,hR''.ok,q2,λl y h=>hR''.obs l y (EN hys h)⟩
  cases e with
  |normal=>exact fin hq
  |ret=>exact fin hq
  |_=>exact hq.elim
 have hent:(callFunc f vals).run P w= .ok (.enter f vals) w:=by simp[callFunc,hf,hb];simpa using hnm
 unfold Oper.wp
 have hrun:(execOp a.eval ⟨ς d,.call ⟨.value (.func f),args.toArray,tys⟩,ty,ps,af,gd⟩).run P w= .ok (.enter f vals) w:=by
  subst hvals
  simp only[execOp,resolve,Act.eval,Deferred.ofValue,Sem.run_bind,Sem.run_pure,Result.andThen_ok,invoke]
  simpa using hent
 rw[hrun,Oper.upon_enter]
 refine hcalls.mono ?_
 rintro e w' ⟨v,E',rfl,ok',hv,hobs⟩
 obtain⟨E3,hE3⟩:∃E3:Env,E3={E' with r:=λo=>match dJ (inv m') o with|some k=>E'.r k|none=>ξ,n:=λo=>match dJ (inv m') o with|some k=>E'.n k|none=>False,T:=λl b=>l<nx'/\E'.T l b}:=⟨_,rfl⟩
 have f_r:∀k o,dJ m' k=ς o->E3.r o=E'.r k:=λk o h=>by subst hE3;grind
 have f_n:∀k o,dJ m' k=ς o->(E3.n o↔E'.n k):=λk o h=>by subst hE3;grind
 have f_r':∀o p,E3.r o=ς p->∃k,dJ m' k=ς o/\E'.r k=ς p:=λo p h=>by
  subst hE3
  grind
 have f_F:E3.F=E'.F:=by subst hE3;rfl
 have f_G:E3.G=E'.G:=by subst hE3;rfl
 have f_T:∀l b,E3.T l b↔l<nx'/\E'.T l b:=λl b=>by subst hE3;exact Iff.rfl
 have f_Z:E3.Z=E'.Z:=by subst hE3;rfl
 have f_H:∀g,E3.H g=E'.H g:=λg=>by cases g;exact f_F;exact f_G
 have hpin:∀k o p,rsp k=ζ->(k,o)∈m->E'.r k=ς p->E.r o=ς p:=λk o p hk hm hp=>by
  have h1:E2.r k=ς p:=ok'.pin k p hk hp
  rwa [e_r k o (i7 ndm1 hm)] at h1
 have ok3:da cx E3 w':=by
  refine⟨by rw[f_F];exact ok'.fb,by rw[f_F,f_G];exact ok'.gf,by rw[f_G];exact ok'.gn,λo b c h=>?_,λo o' b c c' h h'=>?_,ok'.os,ok'.tape,ok'.output,ok'.size,ok'.block,λo p ho h=>?_,by rw[f_F];exact ok'.ff,by rw[f_F];exact ok'.gc,⟨λl b h=>?_,λl l' b h h'=>ok'.sf.tt l l' b ((f_T _ _).1 h).2 ((f_T _ _).1 h').2,λb h=>?_,ok'.sf.zs,by rw[f_Z];exact ok'.sf.ze⟩⟩
  .obtain⟨k,h1,h2⟩:=f_r' o _ h
   obtain⟨h3,h4⟩:=ok'.rb k b c h2
   refine⟨h3,?_⟩
   rcases(hm6 _ (d8 h1)).2 with⟨q1,q2⟩|⟨q1,q2⟩
   .exact(ok.rb o b c (hpin k o _ q1 (FE q2) h2)).2
   grind
  .obtain⟨k,h1,h2⟩:=f_r' o _ h
   obtain⟨k',h1',h2'⟩:=f_r' o' _ h'
   have:=ok'.inj k k' b c c' h2 h2';grind
  .obtain⟨k,h1,h2⟩:=f_r' o _ h
   rcases(hm6 _ (d8 h1)).2 with⟨q1,q2⟩|⟨q1,q2⟩
   .exact ok.pin o p ho (hpin k o _ q1 (FE q2) h2)
   rw[pk q2] at ho;cases ho
  .obtain⟨_,h⟩:=(f_T _ _).1 h
   obtain⟨h1,h2,h3,h4⟩:=ok'.sf.tb l b h
   grind
  obtain⟨h1,h2,h3,h4⟩:=ok'.sf.zc b h
  grind
 have hout:∀c c' u,rlC m' c=ς c'->cvC E' w' c u->cvC E3 w' c' u:=by
  intro c c' u h hc
  cases c with
  |d g x=>cases h;exact cm (λ_ _=>rfl) (λb hb=>by rw[f_H];exact hb) _ _ hc
  |nil=>cases h;exact hc
  |any=>cases h;trivial
  |fn f=>cases h;exact hc
  |w l n=>
   simp only[rlC] at h
   split at h
   .rename_i k h1;cases h
    obtain⟨b,cc,q1,q2⟩:=hc
    exact⟨b,cc,(f_r l k h1).trans q1,q2⟩
   cases h
  |wn l n=>
   simp only[rlC] at h
   split at h
   .rename_i k h1;cases h
    rcases hc with⟨q0,q1⟩|⟨q0,b,cc,q1,q2⟩
    .exact .inl ⟨(f_n l k h1).2 q0,q1⟩
    exact .inr ⟨λq=>q0 ((f_n l k h1).1 q),b,cc,(f_r l k h1).trans q1,q2⟩
   cases h
  |p l n=>
   simp only[rlC] at h
   split at h
   .rename_i k h1;cases h
    obtain⟨b,cc,q1,q2⟩:=hc
    exact⟨b,cc,(f_r l k h1).trans q1,q2⟩
   cases h
  |s l x y z=>
   simp only[rlC] at h
   split at h
   .rename_i k h1;cases h
    obtain⟨A,q,b,cc,q1,q2⟩:=hc
    exact⟨A,q,b,cc,(f_r l k h1).trans q1,q2⟩
   cases h
  |_=>cases h
 have hinj':∀a a' b,dJ m' a=ς b->dJ m' a'=ς b->a=a':=λa a' b h h'=>by
  grind
 refine⟨E3,ok3,λo p h=>?_,λo y h=>?_,λk=>?_,hR.dfr,by simpa [Act.put] using hR.size,λl b h=>((f_T _ _).1 h).1⟩
 .obtain⟨k,h1,_⟩:=f_r' o p h
  exact cO (hm6 _ (d8 h1)).1
 .obtain⟨k,y0,h1,h2,h3⟩:=LS hinj' hy h
  refine LQ h3 hout (λp hp=>(f_r k o h1).trans hp) (f_n k o h1) (λg b hb=>by rw[f_H];exact hb) (λb hb=>by grind) (λj z e b hb=>(f_T _ _).2 ⟨Bc hj (e▸h2),hb⟩) (hobs k y0 h2)
 show cvT E3 w' (gt ((d,out')::kpS (pinned m) sl) k) ((a.put (ς d) v).tmps.getD k undef)
 rw[gu (by rw[hR.size];exact cO hd)]
 by_cases hk:d=k
 .subst hk;rw[cW,if_pos rfl];exact yy hout ho hv
 rw[cy _ _ hk,if_neg hk,Qz]
 have h0:=hR.sl k
 simp only at h0
 cases hg:gt sl k with
 |tup ts=>trivial
 |any=>trivial
 |v vv=>
  cases vv with
  |agg cs=>trivial
  |c c=>
   rw[hg] at h0
   have h0:cvC E w c (a.tmps.getD k undef):=h0
   show cvC E3 w' (kpC (pinned m) c) _
   cases c with
   |p o j=>
    simp only[kpC]
    split
    .rename_i k' h1
     have hmem:=d8 h1
     simp only[pinned,Y3,List.mem_filter,Prod.mk.injEq] at hmem
     obtain⟨⟨p1,p2⟩,⟨hp1,hp2⟩,hp3,hp4⟩:=hmem
     simp only at hp2 hp3 hp4
     subst hp3;subst hp4
     obtain⟨b,cc,q1,q2⟩:=h0
     have hh:=(hm5 _ hp1).2
     rcases hh with hh|⟨hh1,hh2⟩
     .grind
     split at hh2
     .rename_i t cs hgo
      obtain⟨b',c',arr,r1,_⟩:=hobs _ _ hgo
      have r2:=hpin _ _ _ hp2 hp1 r1
      rw[q1] at r2
      have r3:=f_r _ _ (i7 ndm3 (FE hh1))
      exact⟨b,cc,by grind,q2⟩
     cases hh2
    trivial
   |d g x=>
    cases x<;>first|trivial|(simp only[kpC,cvC,rdD] at h0 ⊢;exact h0)
   |_=>trivial
theorem Ph{o:Oper}{needs:List (Operand×T)}{els:Lad}(hn:els.length=n)(h:AWK P o needs nob (.v (.c (.w q n))) [(q,.row e sz els g ζ)] [] ξ):AWK P o needs nob (.v (.c (.d g (.l els)))) [(q,.row e sz els g η)] [] none:=by
 intro cx E a w ok hne hnob hfr
 obtain⟨hq1,hq2⟩:=hfr q _ (.head _)
 refine Oper.wp_mono ?_ (h cx E a w ok hne hnob (λl x hm=>by simp_all))
 rintro a' w' ⟨v,E',k1,ok',k3,⟨b,c,hr,hv⟩,k5,k6,k7⟩
 obtain⟨b',c',arr,hr',hh,ha,hlc,hmx,hes,hrd,hFm,_⟩:=k5 q _ (.head _)
 rw[hr] at hr';cases hr'
 have hF:=hFm rfl
 obtain⟨hb1,hb2⟩:=ok'.rb q b c hr
 have hb3:cx.w0.heap.size<=b:=by
  rcases hb2 with h|h
  .exact h
  simp_all
 let E2:Env:=⟨E'.r,λj=>E'.F j\/j=b,λj=>E'.G j\/(g=ζ/\j=b),E'.T,E'.Z,E'.n⟩
 have hH:∀g' j,E'.H g' j->E2.H g' j:=λg' j hj=>by cases g'<;>exact .inl hj
 have hold:∀l c',E.r l≠ς (b,c'):=λl c' hl=>by
  have h1:=k3.r l _ (by simp) hl
  have:=ok'.inj _ _ _ _ _ h1 hr
  simp_all
 refine⟨v,E2,k1,⟨?_,?_,?_,ok'.rb,ok'.inj,ok'.os,ok'.tape,ok'.output,ok'.size,ok'.block,ok'.pin,λj hj=>hj.elim (ok'.ff j) (λe=>.inr (e▸hb3)),λj hj hj'=>hj.elim (λh=>ok'.gc j h hj') (λe=>e▸.mk hh),
  ⟨λl j h=>?_,ok'.sf.tt,λj h=>?_,ok'.sf.zs,ok'.sf.ze⟩⟩,⟨k3.r,λj hj=>.inl (k3.F j hj),λj hj=>.inl (k3.G j hj),?_,k3.heap,k3.own,k3.ownk,k3.T,k3.Z,k3.n⟩,?_,λl x hm=>?_,(λ_ _ h=>by cases h),λl x hl=>?_⟩
 .rintro j (h|rfl)
  .exact ok'.fb j h
  exact hb1
 .rintro j (h|⟨_,rfl⟩)
  .exact .inl (ok'.gf j h)
  omega
 .rintro j (h|⟨_,rfl⟩)
  .exact ok'.gn j h
  omega
 .obtain⟨h1,h2,h3,h4⟩:=ok'.sf.tb l j h
  grind
 .obtain⟨h1,h2,h3,h4⟩:=ok'.sf.zc j h
  grind
 .rintro j (h|rfl)
  .exact k3.F' j h
  simp_all
 .refine⟨ς ⟨b,0,ξ⟩,c,by rw[hv,hn],hlc,.inr ⟨b,0,rfl,?_,cf (λ_ _=>rfl) (hH g) rfl _ _ hrd⟩⟩
  cases g
  .exact .inr rfl
  exact .inr ⟨rfl,rfl⟩
 .simp at hm;obtain⟨rfl,rfl⟩:=hm
  exact⟨b,c,arr,hr,hh,ha,hlc,hmx,hes,cf (λ_ _=>rfl) (hH g) rfl _ _ hrd,(λh=>by cases h),λ_=>⟨.inr rfl,λhg=>.inr ⟨hg,rfl⟩⟩⟩
 grind
section
variable{P:Program}{N:Nat}{d:Tmp}{tt:TypeId}{ps:String}{af:Array Edge}{gd:Option (Nat×Bool)}{x y:Operand}{sl sl1 sl2:Lab}{ob ob1:Laa}{nx:Nat}
theorem olh{o i:Nat}{els:List (Int×List Int)}{A:Option Addr}{e:Int×List Int}[ic P t](he:els[i]?=ς e)(hx:opT sl x= .v (.c (.e o 2 i 1)))(ho:go ob o=ς (.cxo o ty nt els (ς (i,A,n,k))))(hN:nlt d N=ζ):
 NS0 P N ⟨ς d,.load t x,tt,ps,af,gd⟩ sl ob nx d (.v (.c (.d η (.k A n k)))) ⟨d,[(x,.v (.c (.e o 2 i 1)))],[(o,.cxo o ty nt els (ς (i,A,n,k)))],.v (.c (.d η (.k A n k))),[]⟩:=dh (st:=⟨sl,ob,nx⟩) (HW he) rfl hN ⟨hx,θ⟩ ⟨ho,θ⟩ rfl
theorem olx{o i:Nat}{els:List (Int×List Int)}{e:Int×List Int}[ic P t](he:els[i]?=ς e)(hx:opT sl x= .v (.c (.e o 2 i 1)))(ho:go ob o=ς (.cxo o ty nt els ξ))(hN:nlt d N=ζ):
 NS0 P N ⟨ς d,.load t x,tt,ps,af,gd⟩ sl ob nx d (.v (.c (.r o (.l (e.2.map eI))))) ⟨d,[(x,.v (.c (.e o 2 i 1)))],[(o,.cxo o ty nt els ξ)],.v (.c (.r o (.l (e.2.map eI)))),[]⟩:=dh (st:=⟨sl,ob,nx⟩) (NK he rfl) rfl hN ⟨hx,θ⟩ ⟨ho,θ⟩ rfl
theorem TM{o:Oper}{needs:List (Operand×T)}{out':T}(h:AWN P o needs nob out nw)(ho:∀E w v,cvT E w out v->cvT E w out' v):AWN P o needs nob out' nw:=by
 intro cx E a w ok hn hb hf
 refine Oper.wp_mono ?_ (h cx E a w ok hn hb hf)
 grind
def nkC:C->C
 | .nil=>.d η (.k ξ 0 0)
 |c=>c
def WQ:List C->List C
 |[]=>[]
 |c::cs=>nkC c::WQ cs
theorem WP{c:C}(h:cvC E w c u):cvC E w (nkC c) u:=by
 cases c with
 |nil=>have h:u= .slice ξ 0 0:=h;subst h;rfl
 |_=>exact h
theorem LU{E:Env}{w:World}:∀{cs:List C} {us:Lae},CV E w cs us->CV E w (WQ cs) us
 |[],[],_=>trivial
 |c::cs,u::us,h=>⟨WP h.1,LU h.2⟩
 |[],_::_,h=>h.elim
 |_::_,[],h=>h.elim
theorem bdk{zs:List C}{pl:Lac}{parts:List (Nat×Operand)}{vs:List V}[TyZ P t zs][TyB P t pl](hv:JW sl (parts.map (·.2))=ς vs)(h:Bp pl zs ((parts.map (·.1)).zip vs)=ς cs)(hk:WQ cs=cs')(hN:nlt d N=ζ):
 NS0 P N ⟨ς d,.build t parts.toArray,tt,ps,af,gd⟩ sl ob nx d (.v (.agg cs')) ⟨d,(parts.map (·.2)).zip (vs.map T.v),[],.v (.agg cs'),[]⟩:=by
 subst hk
 obtain⟨h1,h2⟩:=AO hv
 exact dh (st:=⟨sl,ob,nx⟩) (TM (LT (by simp_all) h) (λE w v ⟨arr,hu,hc⟩=>⟨arr,hu,LU hc⟩)) rfl hN h2 trivial rfl
theorem bsx{len:Nat}{parts:List (Nat×Operand)}{vs:List V}{els:Lad}(h:NS P N ⟨ς d,.buildSlice t len parts.toArray,tt,ps,af,gd⟩ ⟨sl,ob,nx⟩ ⟨(d,.v (.c (.w nx len)))::sl,(nx,.row e sz els g ζ)::ob,nx'⟩ ⟨d,(parts.map (·.2)).zip (vs.map T.v),[],.v (.c (.w nx len)),[(nx,.row e sz els g ζ)]⟩)(hn:els.length=len):
 NX P N ⟨ς d,.buildSlice t len parts.toArray,tt,ps,af,gd⟩ ⟨sl,ob,nx⟩ ⟨(d,.v (.c (.d g (.l els))))::sl,(nx,.row e sz els g η)::ob,nx'⟩ ⟨⟨d,(parts.map (·.2)).zip (vs.map T.v),[],.v (.c (.d g (.l els))),[(nx,.row e sz els g η)]⟩,[],ξ⟩:=by
 obtain⟨h1,h2,h3,h4,h5,h6,h7⟩:=h
 exact⟨Ph hn (tp (Bn h1)),.inl ⟨rfl,h3⟩,h4,h5,h6,rfl⟩
def Nh(a:Int):List D:=[.i .i64 a,.k ξ 0 0]
end
def fzC(nw:Laa):C->Option (RC×Lac)
 | .d _ (.i k n)=>ς (.d (.i k n),[])
 | .d _ (.b x)=>ς (.d (.b x),[])
 | .d _ (.str s)=>ς (.d (.str s),[])
 | .d ζ (.l xs)=>ς (.d (.l xs),[])
 | .wn l n=>match go nw l with
  |some (.rown _ _ els ζ)=>ς (.d (.l els),[(els.length,n)])
  |_=>ξ
 | .w l n=>match go nw l with
  |some (.row _ _ els ζ ζ)=>ς (.d (.l els),[(els.length,n)])
  |_=>ξ
 |_=>ξ
def P8(nw:Laa):List C->Option (List RC×Lac)
 |[]=>ς ([],[])
 |c::cs=>match fzC nw c,P8 nw cs with
  |some (r,e),ς (rs,es)=>ς (r::rs,e++es)
  |_,_=>ξ
def fzV(nw:Laa):V->Option (RV×Lac)
 | .c c=>match fzC nw c with
  |some (r,e)=>ς (.c r,e)
  |none=>ξ
 | .agg cs=>match P8 nw cs with
  |some (r,e)=>ς (.agg r,e)
  |none=>ξ
def JD(nw:Laa):List V->Option (List RV×Lac)
 |[]=>ς ([],[])
 |c::cs=>match fzV nw c,JD nw cs with
  |some (r,e),ς (rs,es)=>ς (r::rs,e++es)
  |_,_=>ξ
def fzT(nw:Laa):T->Option (List RV×Lac)
 | .v v=>match fzV nw v with
  |some (r,e)=>ς ([r],e)
  |none=>ξ
 | .tup (a::b::vs)=>JD nw (a::b::vs)
 |_=>ξ
section
variable{nw:Laa}{E:Env}{w:World}{G:Nat->Prop}{base:Nat}(hG:∀b,E.G b->G b)(hN:∀l y,go nw l=ς y->cB E w l y)(hb:∀l y b c,go nw l=ς y->E.r l=ς (b,c)->iV w b->G b)
include hG hN hb
theorem P7{c:C}{r:RC}{e:Lac}(h:fzC nw c=ς (r,e))(he:Eqs e)(hc:cvC E w c u):rcR w G base r u []:=by
 cases c with
 |d g x=>
  cases x with
  |i k n=>simp[fzC] at h;obtain⟨rfl,rfl⟩:=h;exact⟨rfl,by simpa [cvC,rdD] using hc⟩
  |b n=>simp[fzC] at h;obtain⟨rfl,rfl⟩:=h;exact⟨rfl,by simpa [cvC,rdD] using hc⟩
  |str n=>simp[fzC] at h;obtain⟨rfl,rfl⟩:=h;exact⟨rfl,by simpa [cvC,rdD] using hc⟩
  |k A n c'=>simp[fzC] at h
  |l xs=>
   cases g with
   |false=>simp[fzC] at h
   |true=>simp[fzC] at h;obtain⟨rfl,rfl⟩:=h;exact⟨rfl,cm (λ_ _=>rfl) hG _ _ hc⟩
 |wn l n=>
  simp only[fzC] at h
  split at h
  .rename_i ty sz els hg
   simp at h;obtain⟨rfl,rfl⟩:=h
   have hn:els.length=n:=he.1
   rcases hc with⟨h0,h1,h2⟩|⟨h0,b,c,h1,h2⟩
   .subst h2;subst hn
    have:els=[]:=YD h1
    subst this
    exact⟨rfl,ξ,0,rfl,Yj _,.inl rfl⟩
   rcases hN l _ hg with⟨k0,_⟩|⟨_,b',c',arr,k1,k2,k3,k4,k5,k6,k7,k8⟩
   .simp_all
   rw[h1] at k1;cases k1
   exact⟨rfl,ς ⟨b,0,ξ⟩,c,by simp_all,k4,.inr ⟨b,0,rfl,hb l _ b c hg h1 (.mk k2),cf (λ_ _=>rfl) hG rfl _ _ k7⟩⟩
  cases h
 |w l n=>
  simp only[fzC] at h
  split at h
  .rename_i ty sz els hg
   simp at h;obtain⟨rfl,rfl⟩:=h
   have hn:els.length=n:=he.1
   obtain⟨b,c,h1,h2⟩:=hc
   obtain⟨b',c',arr,k1,k2,k3,k4,k5,k6,k7,k8,_⟩:=hN l _ hg
   rw[h1] at k1;cases k1
   exact⟨rfl,ς ⟨b,0,ξ⟩,c,by simp_all,k4,.inr ⟨b,0,rfl,hb l _ b c hg h1 (.mk k2),cf (λ_ _=>rfl) hG rfl _ _ k7⟩⟩
  cases h
 |_=>simp[fzC] at h
theorem Lc:∀{cs:List C} {rs:List RC} {e:Lac} {us:Lae},P8 nw cs=ς (rs,e)->Eqs e->CV E w cs us->Do w G base rs us []
 |[],rs,e,us,h,he,hc=>by
  simp[P8] at h;obtain⟨rfl,rfl⟩:=h
  cases us with
  |nil=>rfl
  |cons _ _=>exact hc.elim
 |c::cs,rs,e,us,h,he,hc=>by
  simp only[P8] at h
  split at h
  .rename_i r e1 rs' e2 h1 h2
   simp at h;obtain⟨rfl,rfl⟩:=h
   obtain⟨g1,g2⟩:=dO he
   cases us with
   |nil=>exact hc.elim
   |cons u us=>exact⟨[],[],rfl,P7 hG hN hb h1 g1 hc.1,Lc h2 g2 hc.2⟩
  cases h
theorem Qc{v:V}{r:RV}{e:Lac}(h:fzV nw v=ς (r,e))(he:Eqs e)(hc:cvV E w v u):rvR w G base r u []:=by
 cases v with
 |c c=>
  simp only[fzV] at h
  split at h
  .rename_i r' e' h1;simp at h;obtain⟨rfl,rfl⟩:=h;exact P7 hG hN hb h1 he hc
  cases h
 |agg cs=>
  simp only[fzV] at h
  split at h
  .rename_i r' e' h1;simp at h;obtain⟨rfl,rfl⟩:=h
   obtain⟨arr,hu,hc⟩:=hc
   exact⟨arr,hu,Lc hG hN hb h1 he hc⟩
  cases h
theorem Lf:∀{cs:List V} {rs:List RV} {e:Lac} {us:Lae},JD nw cs=ς (rs,e)->Eqs e->VV E w cs us->Av w G base rs us []
 |[],rs,e,us,h,he,hc=>by
  simp[JD] at h;obtain⟨rfl,rfl⟩:=h
  cases us with
  |nil=>rfl
  |cons _ _=>exact hc.elim
 |c::cs,rs,e,us,h,he,hc=>by
  simp only[JD] at h
  split at h
  .rename_i r e1 rs' e2 h1 h2
   simp at h;obtain⟨rfl,rfl⟩:=h
   obtain⟨g1,g2⟩:=dO he
   cases us with
   |nil=>exact hc.elim
   |cons u us=>exact⟨[],[],rfl,Qc hG hN hb h1 g1 hc.1,Lf h2 g2 hc.2⟩
  cases h
theorem Wt{t:T}{rs:List RV}{e:Lac}(h:fzT nw t=ς (rs,e))(he:Eqs e)(hc:cvT E w t u):xL w G base rs u []:=by
 cases t with
 |v v=>
  simp only[fzT] at h
  split at h
  .rename_i r' e' h1;simp at h;obtain⟨rfl,rfl⟩:=h;exact Qc hG hN hb h1 he hc
  cases h
 |any=>cases h
 |tup ts=>
  match ts,h,hc with
  |[],h,_=>cases h
  |[_],h,_=>cases h
  |a::b::vs,h,hc=>
   obtain⟨arr,hu,hc⟩:=hc
   have h:JD nw (a::b::vs)=ς (rs,e):=h
   have key:=Lf hG hN hb (base:=base) h he hc
   have hlen:∃x y zs,rs=x::y::zs:=by
    simp only[JD] at h
    split at h
    .grind
    cases h
   obtain⟨x,y,zs,rfl⟩:=hlen
   exact⟨arr,hu,key⟩
end
def LW:Laa->Bool
 |[]=>ζ
 |(l,_)::r=>!rsv l&&LW r
theorem H3{l:Nat}{y:Ob}:∀{nw:Laa},LW nw=ζ->go nw l=ς y->rsv l=η
 |[],_,h=>by cases h
 |(k,z)::r,h0,h=>by
  simp only[LW,hV,Yz] at h0
  by_cases e:k=l
  .simp_all
  rw[bG _ _ e] at h;exact H3 h0.2 h
theorem FnV.frzW{t':TypeId}{e:Lac}(h:FnV P f [(200,.var t cs)] args [(200,.var t' cs')] out nw)(hf:cs'.all C.free=ζ)(hz:fzT nw out=ς (res,e))(he:Eqs e)(hn:LW nw=ζ):
 FnW P f (.var t cs) args (.var t' cs') res:=by
 refine⟨h.enters,λF w vals b c hF hb hT hs hx hA=>?_⟩
 have hbF:¬F b:=by
  obtain⟨b',c',arr,k1,k2,k3,k4⟩:=hx
  simp[E0] at k1;obtain⟨rfl,rfl⟩:=k1
  exact k4
 have hr0:∀o p,(E0 b c F).r o=ς p↔o=200/\p=(b,c):=λo p=>by
  show(if o=200 then ς (b,c) else ξ)=ς p↔_
  grind
 have hI:VIn (E0 b c F) w:=⟨hF,λ_ h=>h.elim,λo b' c' h=>by
  obtain⟨rfl,e⟩:=(hr0 _ _).1 h;cases e;exact⟨hb,rfl,hbF⟩,λo o' b' c1 c2 h h'=>by simp_all,λ_ _ h=>h,λ_ h=>h⟩
 refine(h.calls (E0 b c F) w vals hI hT (λk hk o c' h=>by simp_all) (λl x h=>?_) hA).mono ?_
 .by_cases el:200=l
  .subst el;rw[b9] at h;simp_all
  rw[bG _ _ el] at h;cases h
 rintro en w' ⟨v,E',hen,vo,hv,hys,hnw⟩
 refine⟨v,λk=>(E'.F k/\w.heap.size<=k)\/(w.heap.size<=k/\k<w'.heap.size/\iV w' k/\∃l y c,go nw l=ς y/\E'.r l=ς (k,c)),[],hen,⟨vo.past.os,vo.past.tape,vo.past.output,vo.past.size,λk hk hW=>vo.past.block k hk (λ⟨o,c',ho⟩=>hW (by simp_all))⟩,λk hk=>?_,?_,by simp,?_⟩
 .rcases hk with⟨h1,h2⟩|⟨h1,h2,h3,_⟩
  .refine⟨h2,vo.fb k h1,?_⟩
   rcases vo.f0 k h1 with h|h
   .have:=hF k h;omega
   exact h.2
  simp_all
 .refine Wt (λk hk=>.inl ⟨vo.gf k hk,(vo.g0 k hk).resolve_right (λh=>h.elim)⟩) hnw (λl y k c' hg hr hp=>?_) hz he hv
  obtain⟨q1,q2⟩:=vo.rb l k c' hr
  exact .inr ⟨q2.resolve_right (λq=>by rw[H3 hn hg] at q;cases q.2),q1,hp,l,y,c',hg,hr⟩
 obtain⟨b',c',arr,k1,k2,k3,k4⟩:=hys 200 _ (b9 _ _ _)
 have hp:=vo.pin 200 _ rfl k1
 obtain⟨_,ep⟩:=(hr0 _ _).1 hp;cases ep
 refine⟨b,c,arr,by simp[E1],k2,EH (E:=E') (λg k hk=>?_) (λ_ _ _=>rfl) hf k3,?_⟩
 .have hFk:∀k,E'.F k->F k\/(E'.F k/\w.heap.size<=k):=λk hk=>(vo.f0 k hk).imp id (λh=>⟨hk,h.1⟩)
  cases g with
  |false=>
   show F k\/_
   rcases hFk k hk with h|h
   .exact .inl h
   simp_all
  |true=>
   exact .inl ⟨vo.gf k hk,(vo.g0 k hk).resolve_right (λh=>h.elim)⟩
 rintro(h1|⟨h1,h2⟩|⟨h1,_⟩)
 .exact hbF h1
 .omega
 omega
def upC:C->C
 | .d η (.l xs)=>.d ζ (.l xs)
 |c=>c
def XP:List C->List C
 |[]=>[]
 |c::cs=>upC c::XP cs
def upV:V->V
 | .c c=>.c (upC c)
 | .agg cs=>.agg (XP cs)
def XR:List V->List V
 |[]=>[]
 |c::cs=>upV c::XR cs
def upT:T->T
 | .v v=>.v (upV v)
 | .tup vs=>.tup (XR vs)
 | .any=>.any
section
variable{E E':Env}{w:World}(hr:∀o p,E.r o=ς p->E'.r o=ς p)(hn:∀o,E'.n o↔E.n o)(hF:∀b,E.F b->E'.F b)(hG:∀b,E.G b->E'.G b)(hFG:∀b,E.F b->E'.G b)(hT:E'.T=E.T)(hZ:E'.Z=E.Z)
include hr hn hF hG hFG hT hZ
theorem SC{c:C}(h:cvC E w c u):cvC E' w (upC c) u:=by
 have kp:jV E w E' w\/True:=.inr trivial
 cases c with
 |d g x=>
  cases g with
  |false=>
   cases x with
   |l xs=>exact cm (λ_ _=>rfl) hFG _ _ h
   |i k n=>exact cm (λ_ _=>rfl) hF _ _ h
   |b n=>exact cm (λ_ _=>rfl) hF _ _ h
   |str n=>exact cm (λ_ _=>rfl) hF _ _ h
   |k A n c=>exact cm (λ_ _=>rfl) hF _ _ h
  |true=>exact cm (λ_ _=>rfl) hG _ _ h
 |w o n=>obtain⟨b,c,h1,h2⟩:=h;exact⟨b,c,hr _ _ h1,h2⟩
 |s o sz off len=>obtain⟨A,c,b,k,h1,h2⟩:=h;exact⟨A,c,b,k,hr _ _ h1,h2⟩
 |p o k=>obtain⟨b,c,h1,h2⟩:=h;exact⟨b,c,hr _ _ h1,h2⟩
 |e o sz i j=>obtain⟨b,c,h1,h2⟩:=h;exact⟨b,c,hr _ _ h1,h2⟩
 |q g y j=>
  obtain⟨b,k,h1,h2,h3⟩:=h
  cases g with
  |false=>exact⟨b,k,h1,hF b h2,rdL_mono (λ_ _=>rfl) hF _ _ _ h2 h3⟩
  |true=>exact⟨b,k,h1,hG b h2,rdL_mono (λ_ _=>rfl) hG _ _ _ h2 h3⟩
 |fn f=>exact h
 |nil=>exact h
 |any=>trivial
 |r l x=>exact cm (λ_ _=>rfl) (λb hb=>by simp_all) _ _ h
 |z x=>exact sK (λ_ _=>pM.refl _ _) (λb hb=>by simp_all) _ _ h
 |zq y j=>obtain⟨b,k,h1,h2,h3⟩:=h;exact⟨b,k,h1,by simp_all,rsL_mono (λ_ _=>pM.refl _ _) (λb hb=>by simp_all) _ _ _ h2 h3⟩
 |wn o n=>
  rcases h with⟨h1,h2⟩|⟨h1,b,c,h2,h3⟩
  .exact .inl ⟨(hn o).2 h1,h2⟩
  exact .inr ⟨λk=>h1 ((hn o).1 k),b,c,hr _ _ h2,h3⟩
theorem MJ:∀{cs:List C} {us:Lae},CV E w cs us->CV E' w (XP cs) us
 |[],[],_=>trivial
 |c::cs,u::us,h=>⟨SC hr hn hF hG hFG hT hZ h.1,MJ h.2⟩
 |[],_::_,h=>h.elim
 |_::_,[],h=>h.elim
theorem SD{v:V}(h:cvV E w v u):cvV E' w (upV v) u:=by
 cases v with
 |c c=>exact SC hr hn hF hG hFG hT hZ h
 |agg cs=>obtain⟨arr,hu,h⟩:=h;exact⟨arr,hu,MJ hr hn hF hG hFG hT hZ h⟩
theorem MK:∀{cs:List V} {us:Lae},VV E w cs us->VV E' w (XR cs) us
 |[],[],_=>trivial
 |c::cs,u::us,h=>⟨SD hr hn hF hG hFG hT hZ h.1,MK h.2⟩
 |[],_::_,h=>h.elim
 |_::_,[],h=>h.elim
theorem XQ{t:T}(h:cvT E w t u):cvT E' w (upT t) u:=by
 cases t with
 |v v=>exact SD hr hn hF hG hFG hT hZ h
 |tup vs=>obtain⟨arr,hu,h⟩:=h;exact⟨arr,hu,MK hr hn hF hG hFG hT hZ h⟩
 |any=>trivial
end
def dnC:C->Option C
 | .d ζ (.l xs)=>ς (.d η (.l xs))
 | .d g (.i k n)=>ς (.d g (.i k n))
 | .d g (.b x)=>ς (.d g (.b x))
 | .d g (.str s)=>ς (.d g (.str s))
 | .nil=>ς .nil
 | .fn f=>ς (.fn f)
 |_=>ξ
theorem Wj(hG:∀b,E.G b->E'.F b){c c':C}(h:dnC c=ς c')(hc:cvC E w c u):cvC E' w c' u:=by
 cases c with
 |d g x=>
  cases x with
  |l xs=>
   cases g with
   |false=>cases h
   |true=>cases h;exact cm (λ_ _=>rfl) hG _ _ hc
  |i k n=>cases g<;>(cases h;simpa [cvC,rdD] using hc)
  |b n=>cases g<;>(cases h;simpa [cvC,rdD] using hc)
  |str n=>cases g<;>(cases h;simpa [cvC,rdD] using hc)
  |k A n c=>cases g<;>cases h
 |nil=>cases h;exact hc
 |fn f=>cases h;exact hc
 |_=>simp[dnC] at h
theorem O1{f:C->Option C}{E E':Env}{w w':World}(hf:∀c c' u,f c=ς c'->cvC E w c u->cvC E' w' c' u):∀{ts ts':List T} {us:Lae},p6 f ts=ς ts'->TV E w ts us->TV E' w' ts' us
 |[],ts',us,h,hv=>by
  simp[p6] at h;subst h
  cases us with
  |nil=>trivial
  |cons _ _=>exact hv.elim
 |t::ts,ts',us,h,hv=>by
  simp only[p6] at h
  split at h
  .rename_i h1 h2
   simp at h;subst h
   cases us with
   |nil=>exact hv.elim
   |cons u us=>exact⟨yy hf h1 hv.1,O1 hf h2 hv.2⟩
  cases h
theorem FnV.up{args':List T}{out':T}(h:FnV P f [] args [] out nw)(ha:p6 dnC args'=ς args)(ho:upT out=out'):FnV P f [] args' [] out' nw:=by
 subst ho
 refine⟨h.enters,λE w vals hI ht hs hx hA=>?_⟩
 obtain⟨E0,hE0⟩:∃E0:Env,E0={E with F:=E.G}:=⟨_,rfl⟩
 have e_r:E0.r=E.r:=by subst hE0;rfl
 have e_F:E0.F=E.G:=by subst hE0;rfl
 have e_G:E0.G=E.G:=by subst hE0;rfl
 have e_T:E0.T=E.T:=by subst hE0;rfl
 have e_Z:E0.Z=E.Z:=by subst hE0;rfl
 have hI0:VIn E0 w:=⟨λb hb=>hI.fb b (hI.gf b (by simp_all)),λb hb=>by simp_all,λo b c hr=>by
  rw[e_r] at hr
  obtain⟨k1,k2,k3⟩:=hI.rb o b c hr
  exact⟨k1,k2,by rw[e_F];exact λhg=>k3 (hI.gf b hg)⟩,by rw[e_r];exact hI.inj,by rw[e_T];exact hI.T,by rw[e_Z];exact hI.Z⟩
 refine(h.calls E0 w vals hI0 ht (by simp_all) (λl x hg=>by cases hg) (O1 (λc c' u hc hv=>Wj (λb hb=>by simp_all) hc hv) ha hA)).mono ?_
 rintro e w' ⟨v,E',he,vo,hv,_,hnw⟩
 have f0:∀b,E'.F b->E.G b\/(w.heap.size<=b/\iV w' b):=λb hb=>by have:=vo.f0 b hb;simp_all
 have hr0:∀o b c,E'.r o=ς (b,c)->b<w'.heap.size/\(w.heap.size<=b\/((∃o' c',E.r o'=ς (b,c'))/\rsv o=ζ)):=λo b c hr=>by have:=vo.rb o b c hr;simp_all
 refine⟨v,{E' with F:=λb=>E'.F b\/E.F b,G:=E'.F},he,⟨by have:=vo.past;simp_all,λb hb=>hb.elim (vo.fb b) (λhb=>Yr (hI.fb b hb) vo.past.size),λb hb=>hb.elim (λhb=>(f0 b hb).imp (hI.gf b) id) .inl,λb hb=>.inr hb,λb hb=>vo.F b (by simp_all),λb hb=>.inl hb,λb hb=>(f0 b hb).elim .inr (λk=>.inl k.1),hr0,vo.inj,λo x ho hx'=>by have:=vo.pin o x ho hx';simp_all⟩,
  XQ (E:=E') (E':={E' with F:=λb=>E'.F b\/E.F b,G:=E'.F}) (λ_ _ h=>h) (λ_=>Iff.rfl) (λb hb=>.inl hb) (λb hb=>vo.gf b hb) (λb hb=>hb) rfl rfl hv,λl y hg=>(by cases hg),λl y hg=>?_⟩
 have hk:jV E' w' {E' with F:=λb=>E'.F b\/E.F b,G:=E'.F} w':=⟨λ_ _ h=>h,λg b hb=>by cases g;exact .inl hb;exact vo.gf b hb,λ_ _ _=>rfl,λ_ _ h=>⟨h,rfl⟩,λ_ h=>⟨h,.refl _ _⟩,rfl⟩
 refine f8 hk (λ_ _ _=>rfl) (λb c hr hn hF=>hF.elim hn (λhb=>?_)) (hnw l y hg)
 rcases(hr0 l b c hr).2 with k|⟨⟨o',c',k⟩,_⟩
 .have:=hI.fb b hb;omega
 exact(hI.rb o' b c' k).2.2 hb
section
variable{P:Program}{d:Tmp}{ty:TypeId}{ps:String}{af:Array Edge}{gd:Option (Nat×Bool)}{x y:Operand}
theorem Dm{t by_:Nat}{g2:Bool}{o:Nat}{els:Lad}{m:Bool}{rt:TypeId}{hi:Operand}[ht:dB P t e sz by_](hn:els.length=n)(h0:0<=h)(h2:h<=n):
 AWN P ⟨ς d,.slice t x ξ (ς hi) ξ,ty,ps,af,gd⟩ [(x,.v (.c (.w o n))),(hi,.v (.c (.d g2 (.i .i64 h))))] [(o,.row rt sz els g m)] (.v (.c (.w o h.toNat))) []:=
 cd λE ac w hne hob=>by
  have k1:=hne x _ (.head _)
  have k3:=gz (hne hi _ (.tail _ (.head _)))
  obtain⟨b,c,hr,hu⟩:=k1
  obtain⟨b',c',arr,hr',_,_,hlc,_⟩:=hob o _ (.head _)
  rw[hr] at hr';cases hr'
  obtain⟨i,z,hi1,hi2,_⟩:=ht.i
  obtain⟨he,hu'⟩:=we ht.u
  refine⟨sliced (ς ⟨b,0,ξ⟩) 0 h.toNat c sz,?_,?_⟩
  .simp[execOp,hu,k3,run_sliceAt_slice w t _ _ _ _ hu',run_slice_h w t (ς ⟨b,0,ξ⟩) n c hu' .i64 h h0 oaa,he,eA hi1,hi2]
  exact⟨b,c,hr,by simp[sliced,rK]⟩
theorem Fv{by_ o:Nat}{els ys:Lad}{c:C}[ht:dB P t e sz by_](hrv:rsv o=η)(ho:go nob o=ς (.row e sz els g ζ))(hs:Src nob c ys gy)(hn:n<=els.length)(hsz:∀e∈ys,e.length=sz)(hb:(n+ys.length)*by_<=140737488355328)(h63:n+ys.length<=9223372036854775807):
 AWK P ⟨ς d,.call ⟨.builtin .append,#[x,y],#[t,t]⟩,ty,ps,af,gd⟩ [(x,.v (.c (.w o n))),(y,.v (.c c))] nob (.v (.c (.w q (n+ys.length)))) [(q,.row e sz (els.take n++ys) (g&&gy) ζ)] [] (ς o):=by
 intro cx E a w ok hne hnob hfr
 have hob:∀l x,go nob l=ς x->cB E w l x:=λl x h=>hnob l x (uR h)
 obtain⟨hq1,hq2⟩:=hfr q _ (.head _)
 have h1:cvT E w (.v (.c (.w o n))) (a.eval x):=hne x _ (.head _)
 have h2:cvT E w (.v (.c c)) (a.eval y):=hne y _ (.tail _ (.head _))
 obtain⟨b,cc,hr,hu⟩:=h1
 obtain⟨b',c',arr,hr',hh,ha,hlc,hmx,hes,hrd,hFm,_⟩:=hob o _ ho
 rw[hr] at hr';cases hr'
 have hF:=hFm rfl
 have hesT:∀e'∈els.take n,e'.length=sz:=λe' he'=>hes e' (YG he')
 have hrdT:=nY n hrd
 have hnT:(els.take n).length=n:=by simp;omega
 have hoq:o≠q:=λe=>by simp_all
 obtain⟨A,k,hv,hyk,hA⟩:=zg hob hs h2
 obtain⟨ii,zz,i1,i2,i3,i4,i5⟩:=ht.i
 have hbl:=(ok.rb o b cc hr)
 have hown:w.ownsRow 0 e sz (.slice (ς ⟨b,0,ξ⟩) n cc) n (arr.toList.take (n*sz)):=
  ⟨by simp[ha];grind,.inr ⟨b,cc,arr,rfl,Yu _,hh,by omega,hmx,ha,rfl⟩⟩
 have hsrc:∃news:Lae,news.length=ys.length*sz/\(∀u∈news,u.oneCell'=ζ)/\(∀(j:Nat) (xd:D),ys.flatten[j]?=ς xd->∃u,news[j]?=ς u/\rdD w (E.H gy) xd u)/\
  ∃v' w',(Builtin.append_ #[t,t] ty #[.slice (ς ⟨b,0,ξ⟩) n cc,.slice A ys.length k]).run P w= .ok v' w'/\w'.ownsRow 0 e sz v' (n+ys.length) (arr.toList.take (n*sz)++news)/\w.grownBy w' (ς b)/\v'≠.slice ξ 0 0/\(v'.ownBlock=ς b\/v'.ownBlock=ς w.heap.size):=by
  have hgood:∀ad,A=ς ad->∀news:Lae,news.length=ys.length*sz->(∀(j:Nat) (u:Value),news[j]?=ς u->w.cell? (ad.add j)=ς u)->(∀u∈news,u.oneCell'=ζ)->
   ∃v' w',(Builtin.append_ #[t,t] ty #[.slice (ς ⟨b,0,ξ⟩) n cc,.slice A ys.length k]).run P w= .ok v' w'/\w'.ownsRow 0 e sz v' (n+ys.length) (arr.toList.take (n*sz)++news)/\w.grownBy w' (ς b)/\v'≠.slice ξ 0 0/\(v'.ownBlock=ς b\/v'.ownBlock=ς w.heap.size):=by
   intro ad hAd news n1 n2 n3
   obtain⟨v',w',r1,r2,r3,r4,r5⟩:=run_append_own_at (P:=P) w 0 t ty e ii zz sz by_ ht.u i1 i4 i2 i3 i5 ht.p _ n _ hown ad ys.length k news n1 n2 n3 (by unfold maxLen;omega) hb (Yu _)
   exact⟨v',w',by simp_all,r2,r3,(λh=>by simp_all),r5⟩
  rcases hA with h0|⟨b2,off,rfl,hrd2⟩
  .subst h0
   refine⟨[],by simp,by simp,by simp,?_⟩
   cases A with
   |none=>exact⟨_,w,qh w ht.u i1 hown k,by simp_all,⟨rfl,rfl,rfl,Yj _,λ_ _ _=>rfl⟩,by simp,.inl rfl⟩
   |some ad=>simp_all
  obtain⟨us,q1,q2,q3,q4⟩:=qf (ew.1 hrd2)
  exact⟨us,by rw[q1,eX hsz],q3,q4,hgood _ rfl us (by rw[q1,eX hsz]) q2 q3⟩
 obtain⟨news,n1,n2,n3,v',w',r1,r2,r3,r4,r5⟩:=hsrc
 obtain⟨_,r2⟩:=r2
 rcases r2 with⟨rfl,_⟩|⟨bn,cap,cur,rfl,_,hhn,hcap,hcapm,hcur,htk⟩
 .simp_all
 unfold Oper.wp
 simp only[execOp,resolve,invoke,builtin,Sem.run_bind,Sem.run_pure,Result.andThen_ok,Zg,Yq,Y7,hu,hv,r1,Oper.upon_value]
 have hbn:bn=b\/bn=w.heap.size:=by simpa [Value.ownBlock] using r5
 have hsame:∀k,k<w.heap.size->k≠b->w'.heap[k]?=w.heap[k]?:=λk hk hne=>r3.block k hk (λe=>hne (by injection e))
 have hnF:¬E.F bn:=by
  rcases hbn with rfl|rfl
  .exact hF
  exact λh=>by have:=ok.fb _ h;omega
 have hbig:bn<w'.heap.size:=by
  rcases Yx bn w'.heap.size with h|h
  .exact h
  simp_all
 have hnew:∀l bl cl,l≠o->E.r l=ς (bl,cl)->bl≠bn:=by
  intro l bl cl hne hl e
  subst e
  rcases hbn with h|h
  .subst h;exact hne (ok.inj l o _ _ _ hl hr)
  have:=(ok.rb l bl cl hl).1;omega
 have hHb:∀g k,E.H g k->k≠b/\k<w.heap.size:=λg k hk=>⟨λe=>by subst e;cases g;exact hF hk;exact hF (ok.gf _ hk),ok.hb hk⟩
 have kH:∀(g:Bool) (k:Nat),E.H g k->w'.heap[k]?=w.heap[k]?:=λg k hk=>hsame k (hHb g k hk).2 (hHb g k hk).1
 have kI:∀(g:Bool) (k:Nat),E.H g k->(E.mv o q bn cap).H g k:=λ_ _ h=>h
 have hbnew:cx.w0.heap.size<=b:=by
  rcases hbl.2 with h|h
  .exact h
  simp_all
 have hmv:∀l bl cl,(E.mv o q bn cap).r l=ς (bl,cl)->(l=q/\bl=bn/\cl=cap)\/(l≠q/\l≠o/\E.r l=ς (bl,cl)):=by
  intro l bl cl hl
  simp only[Env.mv] at hl
  split at hl
  .simp_all
  simp_all
 refine⟨_,E.mv o q bn cap,rfl,⟨λk hk=>Yr (ok.fb k hk) r3.size,ok.gf,ok.gn,λl bl cl hl=>?_,λl l' bl cl cl' hl hl'=>?_,by rw[r3.os];exact ok.os,by rw[r3.tape];exact ok.tape,by rw[r3.output];exact ok.output,Y9 ok.size r3.size,λk hk hW=>?_,λl xx hv hl=>?_,ok.ff,λk hk hk'=>(ok.gc k hk hk').of_eq (hsame k (hHb η k hk).2 (hHb η k hk).1),ok.sf.turn hr rfl rfl (λ_ h=>.inl h) (λl bl cl hl=>?_) r3.size hsame⟩,
  ⟨λl xx hl hlr=>?_,λ_ h=>h,λ_ h=>h,λ_ h=>.inl h,λk hk _ hkl=>hsame k hk (λe=>hkl o cc rfl (e▸hr)),(λ_ _ _ _ h=>by cases h),λl bl cl hl hlr=>?_,rfl,rfl,rfl⟩,⟨bn,cap,by simp[Env.mv],rfl⟩,λl ob hm=>?_,(λ_ _ h=>by cases h),λl xx hl=>?_⟩
 .rcases hmv l bl cl hl with⟨_,rfl,rfl⟩|⟨_,_,hl⟩
  .omega
  have:=ok.rb l bl cl hl;grind
 .rcases hmv l bl cl hl with⟨h1,h2,h3⟩|⟨h1,h2,h3⟩<;>rcases hmv l' bl cl' hl' with⟨k1,k2,k3⟩|⟨k1,k2,k3⟩
  .omega
  .grind
  .grind
  exact ok.inj l l' bl cl cl' h3 k3
 .rw[hsame k oaa oaa];exact ok.block k hk hW
 .obtain⟨bl,cl⟩:=xx
  rcases hmv l bl cl hl with⟨rfl,_⟩|⟨_,_,hl⟩
  .rw[pk hq2] at hv;cases hv
  exact ok.pin l _ hv hl
 .grind
 .simp only[Env.mv]
  grind
 .grind
 .simp at hm;obtain⟨rfl,rfl⟩:=hm
  have hall:∀e'∈els.take n++ys,e'.length=sz:=λe' he'=>by
   grind
  refine⟨bn,cap,cur,by simp[Env.mv],hhn,hcur,by simp;omega,hcapm,hall,?_,λ_=>hnF,λh=>by cases h⟩
  rw[ew]
  refine lO λj xd hj=>?_
  rw[Yl,d7 hhn]
  rw[Zb] at hj
  have hfl:(els.take n).flatten.length=n*sz:=by rw[eX hesT,hnT]
  have hxs:(arr.toList.take (n*sz)).length=n*sz:=by simp[ha];rw[Za oaa]
  have hcurj:∀u,(arr.toList.take (n*sz)++news)[j]?=ς u->cur[j]?=ς u:=by
   intro u hu
   rw[<-htk,YK] at hu
   split at hu
   .simp_all
   cases hu
  by_cases hjn:j<n*sz
  .rw[Yt oaa] at hj
   obtain⟨u,u1,u2⟩:=lc (ew.1 hrdT) hj
   rw[Yl,d7 hh] at u1
   refine⟨u,hcurj u ?_,cm (kH _) (kI _) _ _ (mj ok u2 (by simp_all))⟩
   grind
  rw[Ys oaa,hfl] at hj
  obtain⟨u,u1,u2⟩:=n3 _ _ hj
  refine⟨u,hcurj u ?_,cm (kH _) (kI _) _ _ (mj ok u2 (by simp))⟩
  rw[Ys oaa,hxs]
  exact u1
 grind
end
section
variable{P:Program}{N:Nat}{d:Tmp}{ty:TypeId}{ps:String}{af:Array Edge}{gd:Option (Nat×Bool)}{x y:Operand}{sl:Lab}{ob:Laa}{nx:Nat}{α:Type}{enc:α->List D}
theorem cwfT{t by_:Nat}{g2:Bool}{o:Nat}{ys:List α}{m:Bool}{rt:TypeId}{hi:Operand}[ht:dB P t e sz by_](H:fa ys 0 h=ζ)(hn:ys.length=n)(hx:opT sl x= .v (.c (.w o n)))(ho:go ob o=ς (.row rt sz (ys.map enc) g m))(hh:opT sl hi= .v (.c (.d g2 (.i .i64 h))))(hN:nlt d N=ζ):
 NS0 P N ⟨ς d,.slice t x ξ (ς hi) ξ,ty,ps,af,gd⟩ sl ob nx d (.v (.c (.w o h.toNat))) ⟨d,[(x,.v (.c (.w o n))),(hi,.v (.c (.d g2 (.i .i64 h))))],[(o,.row rt sz (ys.map enc) g m)],.v (.c (.w o h.toNat)),[]⟩:=by
 simp only[fa,decide_eq_true_eq] at H
 exact dh (st:=⟨sl,ob,nx⟩) (Dm (by simp_all) H.2.1 oaa) rfl hN ⟨hx,hh,θ⟩ ⟨ho,θ⟩ rfl
theorem apxP{by_ o:Nat}{ys zs:List α}{c:C}(ls:List Nat)[dB P t e sz by_](H0:fa ys 0 h=ζ)(H:cN by_ (ys.take h.toNat++zs).length=ζ)(hzd:zs.map enc=zd)(henc:∀a,(enc a).length=sz)(hp:nM ob ls=ς nob)(hs:Src nob c zd gy)(hd:nlt d N=ζ)(hx:opT sl x= .v (.c (.w o h.toNat)))(hy:opT sl y= .v (.c c))(ho:go nob o=ς (.row e sz (ys.map enc) g ζ))(hg:(g&&gy)=gg)(hrv:rsv o=η)(hnx:nxt nx=ς nx'):
 NX P N ⟨ς d,.call ⟨.builtin .append,#[x,y],#[t,t]⟩,ty,ps,af,gd⟩ ⟨sl,ob,nx⟩ ⟨(d,.v (.c (.w nx (ys.take h.toNat++zs).length)))::sl,(nx,.row e sz ((ys.take h.toNat++zs).map enc) gg ζ)::ob,nx'⟩
  ⟨⟨d,[(x,.v (.c (.w o h.toNat))),(y,.v (.c c))],nob,.v (.c (.w nx (ys.take h.toNat++zs).length)),[(nx,.row e sz ((ys.take h.toNat++zs).map enc) gg ζ)]⟩,[],ς o⟩:=by
 subst hzd;subst hg
 simp only[fa,decide_eq_true_eq] at H0
 have hle:h.toNat<=ys.length:=by omega
 have hl:(ys.take h.toNat++zs).length=h.toNat+zs.length:=by simp;omega
 simp only[cN,decide_eq_true_eq,hl] at H
 have:=Fv (P:=P) (d:=d) (ty:=ty) (ps:=ps) (af:=af) (gd:=gd) (x:=x) (y:=y) (t:=t) (e:=e) (sz:=sz) (by_:=by_) (q:=nx) (n:=h.toNat) hrv ho hs (by simp_all) (B3 henc zs) (by simp_all) (by simp_all)
 rw[<-Zk,<-Y8,YA,<-hl] at this
 exact⟨this,.inl ⟨rfl,cO hd⟩,⟨hx,hy,θ⟩,oE hp,mM hnx,rfl⟩
theorem apxPF{by_ o:Nat}{ys zs:List α}{c:C}(ls:List Nat)[dB P t e sz by_](H0:fa ys 0 h=ζ)(H:cN by_ (ys.take h.toNat++zs).length=ζ)(hzd:zs.map enc=zd)(henc:∀a,(enc a).length=sz)(hfl:∀a,qO (enc a)=ζ)(hp:nM ob ls=ς nob)(hs:Src nob c zd gy)(hd:nlt d N=ζ)(hx:opT sl x= .v (.c (.w o h.toNat)))(hy:opT sl y= .v (.c c))(ho:go nob o=ς (.row e sz (ys.map enc) g ζ))(hrv:rsv o=η)(hnx:nxt nx=ς nx'):
 NX P N ⟨ς d,.call ⟨.builtin .append,#[x,y],#[t,t]⟩,ty,ps,af,gd⟩ ⟨sl,ob,nx⟩ ⟨(d,.v (.c (.w nx (ys.take h.toNat++zs).length)))::sl,(nx,.row e sz ((ys.take h.toNat++zs).map enc) ζ ζ)::ob,nx'⟩
  ⟨⟨d,[(x,.v (.c (.w o h.toNat))),(y,.v (.c c))],nob,.v (.c (.w nx (ys.take h.toNat++zs).length)),[(nx,.row e sz ((ys.take h.toNat++zs).map enc) ζ ζ)]⟩,[],ς o⟩:=by
 obtain⟨h1,h2,h3,h4,h5,h6⟩:=apxP (P:=P) (N:=N) (t:=t) (x:=x) (y:=y) (enc:=enc) (d:=d) (ty:=ty) (ps:=ps) (af:=af) (gd:=gd) (sl:=sl) (ob:=ob) (nx:=nx) ls H0 H hzd henc hp hs hd hx hy ho rfl hrv hnx
 refine⟨?_,h2,h3,h4,mM hnx,rfl⟩
 intro cx E a w ok hne hnob hfr
 refine Oper.wp_mono ?_ (h1 cx E a w ok hne hnob (λl x hm=>by simp_all))
 rintro a' w' ⟨v,E',k1,k2,k3,k4,k5,k6,k7⟩
 refine⟨v,E',k1,k2,k3,k4,λl x hm=>?_,k6,λl x hl=>(k7 l x hl).imp id (λ⟨x',hm⟩=>by simp_all)⟩
 simp at hm;obtain⟨rfl,rfl⟩:=hm
 obtain⟨b,c,arr,j1,j2,j3,j4,j5,j6,j7,j8,j9⟩:=k5 _ _ (.head _)
 refine⟨b,c,arr,j1,j2,j3,by simp_all,j5,by simp_all,?_,j8,λh=>by cases h⟩
 have:rdLL w' (E'.H ζ) ((ys.take h.toNat++zs).map enc) b 0:=wj (λe he=>by grind) j7
 simp_all
end
def nmO(d:Nat):Operand->Bool
 | .tmp t=>!f4 t d
 |_=>ζ
def NR(d:Nat):Op->Bool
 | .move x| .assign x| .nilCheck x| .fieldAddr _ x _| .field _ x _| .load _ x| .unOp _ _ x| .convert _ _ x| .extract x _=>nmO d x
 | .store _ x y| .indexAddr _ x y| .index _ x y| .binOp _ _ x y _=>nmO d x&&nmO d y
 | .buildSlice _ _ ps| .build _ ps=>ps.toList.all λp=>nmO d p.2
 | .call c=>(match c.callee with| .value x=>nmO d x| .builtin _=>ζ|_=>η)&&c.args.toList.all (nmO d)
 |_=>η
theorem WF{d:Nat}{ρ ρ':Operand->Value}(hρ:∀x,nmO d x=ζ->ρ x=ρ' x){l:Array Operand}(h:l.toList.all (nmO d)=ζ):l.map ρ=l.map ρ':=by
 grind
theorem Ul{d:Nat}{ρ ρ':Operand->Value}(hρ:∀x,nmO d x=ζ->ρ x=ρ' x){l:Array (α×Operand)}(h:(l.toList.all λp=>nmO d p.2)=ζ):(l.map λ(i,x)=>(i,ρ x))=(l.map λ(i,x)=>(i,ρ' x)):=by
 grind
theorem Ux{d:Nat}{o:Oper}{ρ ρ':Operand->Value}(h:NR d o.op=ζ)(hρ:∀x,nmO d x=ζ->ρ x=ρ' x):execOp ρ o=execOp ρ' o:=by
 unfold execOp
 cases e:o.op with
 |move x|assign x|nilCheck x|fieldAddr _ x _|field _ x _|load _ x|unOp _ _ x|convert _ _ x|extract x _=>
  rw[e] at h;simp only[hρ x h]
 |store _ x y|indexAddr _ x y|index _ x y|binOp _ _ x y _=>
  rw[e] at h;simp only[NR,hV] at h;simp_all
 |buildSlice _ _ ps|build _ ps=>rw[e] at h;simp only[Ul hρ h]
 |call c=>
  rw[e] at h
  simp only[NR,hV] at h
  have h2:=WF hρ h.2
  have:resolve ρ c o.type=resolve ρ' c o.type:=by
   unfold resolve
   rw[h2]
   cases e2:c.callee with
   |value x=>simp_all
   |builtin b=>rfl
   |invoke r n=>simp_all
  simp_all
 |_=>first|rfl|(rw[e] at h;cases h)
section
variable{P:Program}{ops:Array Oper}{Q:Exit->Act->World->Prop}
theorem sI(a:Act)(o:Option Nat)(d:Nat)(u v:Value)(h:o≠ς d):(a.put (ς d) v).put o u=(a.put o u).put (ς d) v:=by
 cases o with
 |none=>rfl
 |some k=>
  have hk:k≠d:=λe=>h (by rw[e])
  simp only[Act.put]
  congr 1
  exact ZM _ _ (Ne.symm hk)
theorem PU{a:Act}{d:Nat}{v:Value}{x:Operand}(h:nmO d x=ζ):(a.put (ς d) v).eval x=a.eval x:=by
 cases x with
 |tmp t=>
  have ht:t≠d:=λe=>by subst e;simp[nmO] at h
  show(a.tmps.setIfInBounds d v).getD t undef=a.tmps.getD t undef
  rw[Zy,Zy,ZF (Ne.symm ht)]
 |_=>rfl
theorem Th{o:Oper}{a:Act}{d s:Nat}{v:Value}{K K':Act->World->Prop}(hQ:∀e a w,Q e a w->e= .normal)(h:NR d o.op=ζ)(hd:o.dst≠ς d)(hs:o.dst≠ς s)(hK:∀a' w',a'.tmps.getD s undef=a.tmps.getD s undef->K (a'.put (ς d) v) w'->K' a' w')(hh:o.wp P (a.put (ς d) v) w K Q):o.wp P a w K' Q:=by
 have hput:∀(a0:Act) (u:Value),a0.tmps=a.tmps->(a0.put o.dst u).tmps.getD s undef=a.tmps.getD s undef:=λa0 u h0=>by
  rw[<-h0]
  cases e:o.dst with
  |none=>rfl
  |some k=>
   have hk:k≠s:=λe'=>hs (by rw[e,e'])
   show(a0.tmps.setIfInBounds k u).getD s undef=a0.tmps.getD s undef
   simp_all
 unfold Oper.wp at*
 rw[Ux h (ρ':=a.eval) (λx hx=>PU hx)] at hh
 generalize hr:(execOp a.eval o).run P w=r at*
 cases r with
 |ok n w'=>
  cases n with
  |value u=>exact hK _ w' (hput a u rfl) (by rw[<-sI a o.dst d u v hd];exact hh)
  |skip=>exact hK _ w' (hput a undef rfl) (by rw[<-sI a o.dst d undef v hd];exact hh)
  |defer x=>exact hK _ w' (hput {a with defers:=x::a.defers} undef rfl) (by rw[<-sI _ o.dst d undef v hd];exact hh)
  |enter f args=>
   refine Calls.mono hh (λe w'' he=>?_)
   cases e with
   |returned u=>exact hK _ w'' (hput a u rfl) (by rw[<-sI a o.dst d u v hd];exact he)
   |panicked c=>grind
   |outgrown=>exact he
  |row r args=>exact Rows.mono hh (λu w'' he=>hK _ w'' (hput a u rfl) (by rw[<-sI a o.dst d u v hd];exact he))
  |_=>exact hh.elim
 |halt x w'=>
  cases x with
  |panic u=>have:=hQ _ _ _ hh;cases this
  |_=>exact hh.elim
def EL(ops:Array Oper)(i0 d s:Nat):Prop:=∀j o,ops[j]?=ς o->j≠i0->(∃e∈o.after,Region.binds .any e=ζ/\e.on=i0)\/(NR d o.op=ζ/\o.dst≠ς d/\o.dst≠ς s/\∀q b,o.guard=ς (q,b)->(ops[q]?).bind (·.dst)≠ς d)
theorem KH{o:Oper}{a:Act}{d:Nat}{v:Value}(hg:∀q b,o.guard=ς (q,b)->(ops[q]?).bind (·.dst)≠ς d):Region.wanted o (yielded ops (a.put (ς d) v).tmps)=Region.wanted o (yielded ops a.tmps):=by
 unfold Region.wanted
 cases e:o.guard with
 |none=>rfl
 |some qb=>
  obtain⟨q,b⟩:=qb
  have:=hg q b e
  have hy:yielded ops (a.put (ς d) v).tmps q=yielded ops a.tmps q:=by
   unfold yielded
   cases e2:(ops[q]?).bind (·.dst) with
   |none=>rfl
   |some k=>
    have hk:d≠k:=λe'=>this (by rw[e2,e'])
    show(match(a.tmps.setIfInBounds d v)[k]? with|some (.bool b)=>ς b|_=>ξ)=_
    grind
  simp_all
theorem BF{i0 d s:Nat}{o0:Oper}{listed:Array Bool}{a:Act}(hQ:∀e a w,Q e a w->e= .normal)(ho:ops[i0]?=ς o0)(hop:o0.op= .move (.tmp s))(hod:o0.dst=ς d)(hog:o0.guard=ξ)(hoa:o0.after= #[])(hE:EL ops i0 d s)(hlt:i0<ops.size)(hsz:listed.size=ops.size)(hun:listed.getD i0 η=η)(hh:wpAny P .any ops Q n (listed.setIfInBounds i0 ζ) (a.put (ς d) (a.tmps.getD s undef)) w)(h:∀i,(i∈Region.ready .any ops listed/\i≠i0/\i∈Region.ready .any ops (listed.setIfInBounds i0 ζ))->wpOp P ops Q i (wpAny P .any ops Q n (listed.setIfInBounds i ζ)) a w):wpAny P .any ops Q (n+1) listed a w:=by
 have hr0:i0∈Region.ready .any ops listed:=by
  rw[mem_ready]
  refine⟨?_,o0,ho,λe he=>by simp_all⟩
  rw[Zy,Array.getElem?_eq_getElem oaa] at hun ⊢
  simpa using hun
 refine⟨λh0=>(by simp_all),λi hi=>?_⟩
 by_cases hne:i=i0
 .subst hne
  unfold wpOp
  simp only[ho]
  rw[if_pos (by simp[Region.wanted,hog])]
  refine .inl ?_
  unfold Oper.wp execOp
  rw[hop]
  show wpAny P .any ops Q n _ (a.put o0.dst (a.tmps.getD s undef)) w
  simp_all
 refine h i ⟨hi,hne,?_⟩
 obtain⟨h1,h2,o,h3,h4⟩:=lp hsz hi
 rw[mem_ready]
 refine⟨?_,o,h3,λe he hb=>?_⟩
 .have:(listed.setIfInBounds i0 ζ).getD i η=false:=by rw[cF oaa,if_neg (Ne.symm hne)];exact h2
  simp_all
 rw[cF oaa]
 simp_all
theorem I8{i0 d s:Nat}{o0:Oper}(hQ:∀e a w,Q e a w->e= .normal)(ho:ops[i0]?=ς o0)(hop:o0.op= .move (.tmp s))(hod:o0.dst=ς d)(hog:o0.guard=ξ)(hoa:o0.after= #[])(hsd:s≠d)(hE:EL ops i0 d s):
 ∀(n:Nat) (listed:Array Bool) (a:Act) (w:World),listed.size=ops.size->listed.getD i0 η=η->wpAny P .any ops Q n (listed.setIfInBounds i0 ζ) (a.put (ς d) (a.tmps.getD s undef)) w->wpAny P .any ops Q (n+1) listed a w:=by
 have hlt:i0<ops.size:=by
  rcases Yx i0 ops.size with h|h
  .exact h
  simp_all
 intro n
 induction n with
 |zero=>
  intro listed a w hsz hun hh
  refine BF hQ ho hop hod hog hoa hE hlt hsz hun hh (λi hi=>?_)
  have hi2:=hi.2.2;rw[hh.1] at hi2;cases hi2
 |succ n ih=>
  intro listed a w hsz hun hh
  refine BF hQ ho hop hod hog hoa hE hlt hsz hun hh (λi hi=>?_)
  obtain⟨h1,h2,o,h3,h4⟩:=lp hsz hi.1
  have hne:=hi.2.1
  have hR:=hi.2.2
  have h5:=hh.2 i hR
  rcases hE i o h3 hne with⟨e,he,hb,hon⟩|⟨k1,k2,k3,k4⟩
  .grind
  have hs2:(listed.setIfInBounds i ζ).size=ops.size:=by simpa using hsz
  have hun2:(listed.setIfInBounds i ζ).getD i0 η=false:=by rw[cF oaa,if_neg hne];exact hun
  have key:∀a' w',a'.tmps.getD s undef=a.tmps.getD s undef->wpAny P .any ops Q n ((listed.setIfInBounds i0 ζ).setIfInBounds i ζ) (a'.put (ς d) (a.tmps.getD s undef)) w'->wpAny P .any ops Q (n+1) (listed.setIfInBounds i ζ) a' w':=λa' w' hs' hk=>by
   refine ih _ a' w' hs2 hun2 ?_
   rw[hs',ZM _ _ hne];exact hk
  unfold wpOp at h5 ⊢
  simp only[h3] at h5 ⊢
  rw[KH k4] at h5
  split
  .rename_i hw
   rw[if_pos hw] at h5
   rcases h5 with h5|⟨_,a'',w'',h5⟩
   .exact .inl (Th hQ k1 k2 k3 key h5)
   grind
  rename_i hw
  rw[if_neg hw] at h5
  rw[sI a o.dst d undef _ k2] at h5
  refine key _ w ?_ h5
  cases e:o.dst with
  |none=>rfl
  |some k=>
   have hk:k≠s:=λe'=>k3 (by rw[e,e'])
   show(a.tmps.setIfInBounds k undef).getD s undef=a.tmps.getD s undef
   rw[Zy,Zy,ZF hk]
theorem I9{Q':Exit->Act->World->Prop}(hQ:∀e a w,Q e a w->Q' e a w):∀(n:Nat) (listed:Array Bool) (a:Act) (w:World),wpAny P .any ops Q n listed a w->wpAny P .any ops Q' n listed a w:=by
 intro n
 induction n with
 |zero=>exact λ_ _ _ h=>⟨h.1,hQ _ _ _ h.2⟩
 |succ n ih=>
  intro listed a w h
  refine⟨λh0=>hQ _ _ _ (h.1 h0),λi hi=>?_⟩
  have h2:=h.2 i hi
  unfold wpOp at h2 ⊢
  split
  .simp_all
  rename_i o e
  simp only[e] at h2
  split
  .rename_i hw
   rw[if_pos hw] at h2
   rcases h2 with h2|⟨h2,a',w',h3⟩
   .exact .inl (qC hQ (Oper.wp_mono (λa w=>ih _ a w) h2))
   exact .inr ⟨h2,a',w',hQ _ _ _ h3⟩
  simp_all
end
def Jy(ops:Array Oper)(i0 d s:Nat):Bool:=
 (match ops[i0]? with
  |some ⟨ς d',.move (.tmp s'),_,_,af,ξ⟩=>f4 d' d&&f4 s' s&&af.toList.isEmpty
  |_=>η)&&!f4 s d&&(v0 ops.size).all λj=>f4 j i0||(match ops[j]? with
   |some o=>(o.after.toList.any λe=>Region.binds .any e&&f4 e.on i0)||(NR d o.op&&(match o.dst with|some k=>!f4 k d&&!f4 k s|none=>ζ)&&
    (match o.guard with|some (q,_)=>(match(ops[q]?).bind (·.dst) with|some k=>!f4 k d|none=>ζ)|none=>ζ))
   |none=>η)
theorem Uv{a b:Nat}(h:(!f4 a b)=ζ):a≠b:=λe=>by simp_all
theorem Nd{ops:Array Oper}{i0 d s:Nat}(h:Jy ops i0 d s=ζ):(∃o0,ops[i0]?=ς o0/\o0.op= .move (.tmp s)/\o0.dst=ς d/\o0.guard=ξ/\o0.after= #[])/\s≠d/\EL ops i0 d s:=by
 simp only[Jy,hV] at h
 obtain⟨⟨h1,h2⟩,h3⟩:=h
 refine⟨?_,Uv h2,λj o hj hne=>?_⟩
 .split at h1
  .simp_all
  cases h1
 have hlt:j<ops.size:=by
  rcases Yx j ops.size with h|h
  .exact h
  simp_all
 have k:=Yi.1 h3 j (by simp_all)
 simp only[hj,Yw,hV] at k
 rcases k with k|k|⟨⟨k1,k2⟩,k3⟩
 .simp_all
 .obtain⟨e,he,hb⟩:=YF.1 k
  simp only[hV] at hb
  exact .inl ⟨e,by simp_all,hb.1,Yf hb.2⟩
 refine .inr ⟨k1,λe=>?_,λe=>?_,λq b hg e=>?_⟩
 .simp_all
 .simp_all
 simp_all
theorem TJ{l:List Oper}{ob:Laa}{AQ:Exit->St->Prop}(i0 d s:Nat)(is:List Nat){r:List (Nat×Oper)}{t:T}(hm:P.follows .mixedOrders=ζ)(he:AG l.toArray=ζ)(hc:Jp l.length (i0::is)=ζ)(ho:Cc l is=ς r)(hE:Jy l.toArray i0 d s=ζ)(hd:nlt d N=ζ)(ht:gt sl s=t)(h:DZ P N l.toArray r [i0] [] [] ⟨(d,t)::sl,ob,nx⟩ ⟨(d,t)::sl,ob,nx⟩ (λs=>AQ .normal s)):AWC P N (.region id l.toArray ζ) ⟨sl,ob,nx⟩ AQ:=by
 subst ht
 intro cx E a w hR
 refine wp_region_any hm ?_
 have hR':=yL hR
 obtain⟨⟨o0,e1,e2,e3,e4,e5⟩,hsd,hE⟩:=Nd hE
 have hlt:i0<l.toArray.size:=by
  rcases Yx i0 l.toArray.size with h|h
  .exact h
  simp_all
 have hdN:d<N:=cO hd
 have hedge:∀i o,l.toArray[i]?=ς o->∀e∈o.after,Region.binds .any e=ζ->e.on<i:=by
  intro i o ho e hm hb
  have hi:i<l.toArray.size:=by
   rcases Yx i l.toArray.size with h|h
   .exact h
   simp_all
  have:=Yi.1 he i (by simp_all)
  simp only[ho] at this
  have:=Yi.1 this e (by simp_all)
  simp only[hb,Ze,Zu] at this
  exact cO this
 have hfull:unl l.toArray (Ym l.toArray.size η)=l.toArray.size:=by
  unfold unl
  rw[ZC.2]
  .simp
  simp_all
 have hst:=qz (ops:=l.toArray) (listed:=Ym l.toArray.size η) (i:=i0) (by simp) hlt (iv _ _)
 rw[hfull] at hst
 have hcl:uG l.toArray ((Ym l.toArray.size η).setIfInBounds i0 ζ):=uM (by simp) hlt e1 (λe he=>by grind) (λi o ho hd=>by rw[iv] at hd;cases hd)
 have hR2:Rel N cx E ⟨(d,gt sl s)::sl,ob,nx⟩ (a.put (ς d) (a.tmps.getD s undef)) {w with drawn:=w.drawn+1}:=by
  refine⟨hR'.ok,hR'.dom,hR'.obs,λk=>?_,hR'.dfr,by simpa [Act.put] using hR'.size,hR'.td⟩
  rw[gu (by rw[hR'.size];exact hdN)]
  by_cases hk:d=k
  .subst hk;rw[cW,if_pos rfl];exact hR'.sl s
  rw[cy _ _ hk,if_neg hk];exact hR'.sl k
 have key:=PM (P:=P) (cx:=cx) (Q:=λe a w=>e= .normal/\B4 N cx AQ .normal a w) (PO hedge) (λE st a w hR hK=>⟨rfl,E,st,hR,hK⟩) h rfl (λq hq=>by have:=(qc ho).1 q hq;grind) (λj hj=>by
  have hj':j<l.length:=by simpa using hj
  have:=Yi.1 hc j (by grind)
  rcases Yh.1 (f6.1 this) with e|e
  .grind
  exact .inr (.inr ((qc ho).2 j e))) (λi o y _ hy=>by simp at hy) (λk=>rfl) rfl rfl ((Ym l.toArray.size η).setIfInBounds i0 ζ) _ _ E (by simp) hcl (λj=>by
  rw[cF (by grind)]
  split
  .rename_i e;subst e;simp[iH]
  rename_i e;rw[iv];symm;rw[Bool.eq_false_iff];intro h;have:=f6.1 h;grind) hR2
 have k2:=I8 (λe a w h=>h.1) e1 e2 e3 e4 e5 hsd hE _ (Ym l.toArray.size η) a {w with drawn:=w.drawn+1} (by simp) (iv _ _) key
 rw[<-hst] at k2
 exact I9 (λe a w h=>by grind) _ _ _ _ k2
def obS(s:ByteArray):List Int:=s.data.toList.map λc=>(c.toNat:Int)
theorem Me{w:World}{F:Nat->Prop}{b:Nat}:∀{xs:List Int} {k:Nat},(∀(j:Nat) (u:Value),(xs.map (Value.int .u8))[j]?=ς u->w.cell? ⟨b,k+j,ξ⟩=ς u)->rdLL w F (xs.map eU8) b k
 |[],k,_=>by simp[rdLL]
 |n::xs,k,h=>by
  rw[Yq,rdLL]
  refine⟨?_,?_⟩
  .simp only[eU8,rdL,rdD]
   exact⟨⟨.int .u8 n,h 0 _ (by simp),rfl⟩,θ⟩
  refine Me (λj u hj=>?_)
  have:=h (j+1) u (by simp_all)
  rwa [show k+(eU8 n).length+j=k+(j+1) from by simp[eU8];omega]
section
variable{P:Program}{N:Nat}{d:Tmp}{x y:Operand}{ty:TypeId}{ps:String}{af:Array Edge}{gd:Option (Nat×Bool)}{sl:Lab}{ob:Laa}{nx:Nat}
theorem n_stb{t' e:TypeId}{by_:Nat}{s:ByteArray}[hs:dB P t' e sz by_][he:TyU P e (.int .u8)][hd:TyU P t .string]:
 AWN P ⟨ς d,.convert t t' x,ty,ps,af,gd⟩ [(x,tS s)] [] (.v (.c (.d ζ (.l ((obS s).map eU8))))) []:=by
 intro cx E a w ok hn _ _
 have hx:a.eval x= .string s:=by
  have:=hn x _ (.head _)
  simpa [cvT,cvV,cvC,rdD] using this
 have hrun:=run_bytes_of_string (P:=P) w t t' e s hd.h hs.u he.h
 generalize hc:grownCap w s.size 0 e=cap at hrun
 have hge:s.size<=cap:=by rw[<-hc];exact grownCap_ge w _ 0 e
 generalize hA:bytesRow s cap=A at hrun
 have hb:(w.drew.alloc (.cells A e (A.size,A.size+1))).heap[w.heap.size]?=ς (.cells A e (A.size,A.size+1)):=oD w.drew _
 have hold:∀b,b<w.heap.size->(w.drew.alloc (.cells A e (A.size,A.size+1))).heap[b]?=w.heap[b]?:=λb h=>Below.heap_alloc w.drew _ b h
 have hsz:(w.drew.alloc (.cells A e (A.size,A.size+1))).heap.size=w.heap.size+1:=by simp
 obtain⟨w',hw'⟩:∃w',w'=w.drew.alloc (.cells A e (A.size,A.size+1)):=⟨_,rfl⟩
 rw[<-hw'] at hrun hb hold hsz
 have hos:w'.os=w.os/\w'.tape=w.tape/\w'.output=w.output:=by subst hw';exact⟨rfl,rfl,rfl⟩
 obtain⟨E',hE'⟩:∃E':Env,E'={E with F:=λb=>E.F b\/b=w.heap.size,G:=λb=>E.G b\/b=w.heap.size}:=⟨_,rfl⟩
 have e_r:E'.r=E.r:=by subst hE';rfl
 have e_F:∀b,E'.F b↔(E.F b\/b=w.heap.size):=λb=>by simp_all
 have e_G:∀b,E'.G b↔(E.G b\/b=w.heap.size):=λb=>by simp_all
 have e_T:E'.T=E.T:=by subst hE';rfl
 have e_Z:E'.Z=E.Z:=by subst hE';rfl
 have e_n:E'.n=E.n:=by subst hE';rfl
 have ok':da cx E' w':=by
  refine⟨λb h=>?_,λb h=>?_,λb h=>?_,λo b c h=>?_,by rw[e_r];exact ok.inj,hos.1.trans ok.os,hos.2.1.trans ok.tape,hos.2.2.trans ok.output,by have:=ok.size;omega,λb h hW=>?_,by rw[e_r];exact ok.pin,λb h=>?_,λb h h'=>?_,ok.sf.grow e_T e_Z (λb h=>?_) (λo b c h=>?_) oaa hold⟩
  .rcases(e_F b).1 h with h|h
   .have:=ok.fb b h;omega
   omega
  .exact(e_F b).2 (((e_G b).1 h).imp (ok.gf b) id)
  .rcases(e_G b).1 h with h|h
   .exact ok.gn b h
   subst h;exact .inl ok.size
  .rw[e_r] at h;obtain⟨h1,h2⟩:=ok.rb o b c h;grind
  .rw[hold b (by have:=ok.size;omega)];exact ok.block b h hW
  .rcases(e_F b).1 h with h|h
   .exact ok.ff b h
   subst h;exact .inr ok.size
  .rcases(e_F b).1 h with h|h
   .exact(ok.gc b h h').of_eq (hold b (ok.fb b h))
   subst h;exact⟨_,_,_,hb,.inr (Yj _)⟩
  .grind
  rw[e_r] at h;grind
 unfold Oper.wp
 have hex:(execOp a.eval ⟨ς d,.convert t t' x,ty,ps,af,gd⟩).run P w= .ok (.value (.slice (ς ⟨w.heap.size,0,ξ⟩) s.size cap)) w':=by
  simp only[execOp,hx,Sem.run_bind,hrun,Result.andThen_ok,Sem.run_pure]
 rw[hex]
 refine⟨_,E',rfl,ok',⟨λo x h=>by simp_all,λb h=>(e_F b).2 (.inl h),λb h=>(e_G b).2 (.inl h),λb h=>((e_F b).1 h).imp id (λe=>by omega),hold,e_T,e_Z,e_n⟩,?_,λl ob h=>by simp at h,λl x h=>.inl (by simp_all)⟩
 simp only[cvT,cvV,cvC,rdD]
 have hlen:((obS s).map eU8).length=s.size:=by simp[obS]
 refine⟨ς ⟨w.heap.size,0,ξ⟩,cap,by rw[hlen],by omega,.inr ⟨w.heap.size,0,rfl,(e_G _).2 (.inr rfl),?_⟩⟩
 refine Me (λj u hj=>?_)
 rw[Yl]
 have hcell:w'.cell? ⟨w.heap.size,j,ξ⟩=A[j]?:=vX hb
 rw[hcell,<-hA]
 have hj':j<s.size:=by
  have:=(Yc.1 hj).1
  simpa [obS] using this
 simp only[bytesRow]
 rw[Zf (by simp_all)]
 simpa [obS,YM] using hj
theorem cvb{t' e:TypeId}{by_:Nat}{s:ByteArray}[dB P t' e sz by_][TyU P e (.int .u8)][TyU P t .string](hx:opT sl x=tS s:=by exact rfl)(hN:nlt d N=true:=by exact rfl):
 NS0 P N ⟨ς d,.convert t t' x,ty,ps,af,gd⟩ sl ob nx d (.v (.c (.d ζ (.l ((obS s).map eU8))))) ⟨d,[(x,tS s)],[],.v (.c (.d ζ (.l ((obS s).map eU8)))),[]⟩:=dh (st:=⟨sl,ob,nx⟩) n_stb rfl hN ⟨hx,θ⟩ trivial rfl
end
def oV(ops:Array Oper):Array Bool->List Nat->Prop
 |listed,[]=>Region.ready .any ops listed=[]
 |listed,i::L=>i∈Region.ready .any ops listed/\oV ops (listed.setIfInBounds i ζ) L
section
variable{P:Program}{ops:Array Oper}{Q:Exit->Act->World->Prop}
theorem Nv:∀(fuel t:Nat) (listed:Array Bool),listed.size=ops.size->unl ops listed<=fuel->oV ops listed (Region.linearise.go .any ops fuel t listed []):=by
 intro fuel
 induction fuel with
 |zero=>
  intro t listed hsz hu
  simp only[Region.linearise.go,List.reverse_nil,oV]
  rw[ZA]
  intro i hi
  obtain⟨h1,h2,_⟩:=lp hsz hi
  have:=qz hsz h1 h2
  omega
 |succ fuel ih=>
  intro t listed hsz hu
  simp only[Region.linearise.go]
  change oV ops listed (match(Region.ready .any ops listed)[t%(Region.ready .any ops listed).length]? with
   |some i=>Region.linearise.go .any ops fuel (t/(Region.ready .any ops listed).length) (listed.setIfInBounds i ζ) [i]
   |none=>[].reverse)
  cases hi:(Region.ready .any ops listed)[t%(Region.ready .any ops listed).length]? with
  |none=>
   have hnil:Region.ready .any ops listed=[]:=by
    cases hr:Region.ready .any ops listed with
    |nil=>rfl
    |cons x xs=>
     rw[hr] at hi
     have hlt:t%(x::xs).length<(x::xs).length:=Nat.mod_lt _ (by simp)
     grind
   exact hnil
  |some i=>
   simp only[]
   rw[linearise_go_acc,List.reverse_singleton,List.singleton_append]
   have hm:=List.mem_of_getElem? hi
   obtain⟨h1,h2,_⟩:=lp hsz hm
   have:=qz hsz h1 h2
   exact⟨hm,ih _ _ (by simp_all) oaa⟩
theorem EC:∀(L:List Nat) (listed:Array Bool),listed.size=ops.size->oV ops listed L->L.length<=unl ops listed
 |[],_,_,_=>Yu _
 |i::L,listed,hsz,h=>by
  obtain⟨h1,h2,_⟩:=lp hsz h.1
  have:=qz hsz h1 h2
  have h3:=EC L _ (by simp_all) h.2
  simp_all
theorem ED:∀(L:List Nat) (n:Nat) (listed:Array Bool) (a:Act) (w:World),oV ops listed L->L.length<=n->wpAny P .any ops Q n listed a w->wpOps P ops Q L a w
 |[],0,_,_,_,_,_,h=>h.2
 |[],n+1,_,_,_,hv,_,h=>h.1 hv
 |i::L,0,_,_,_,_,hl,_=>by simp at hl
 |i::L,n+1,listed,a,w,hv,hl,h=>by
  rw[wpOps_cons]
  exact wpOp_mono (λa w h=>ED L n _ a w hv.2 (by simp_all) h) (h.2 i hv.1)
end
def kX:List Oper->Nat->Nat->List Oper
 |[],_,_=>[]
 |⟨d,op,ty,ps,af,gd⟩::r,0,q=>⟨d,op,ty,ps,af.push ⟨q,.data⟩,gd⟩::r
 |o::r,p+1,q=>o::kX r p q
theorem ti:∀{l:List Oper} {p q i:Nat},i≠p->(kX l p q)[i]?=l[i]?
 |[],_,_,_,_=>rfl
 |o::r,0,q,0,h=>absurd rfl h
 |⟨d,op,ty,ps,af,gd⟩::r,0,q,i+1,_=>by simp[kX]
 |o::r,p+1,q,0,_=>by simp[kX]
 |o::r,p+1,q,i+1,h=>by simp only[kX,ZO];exact ti (λe=>h (by rw[e]))
theorem vV:∀{l:List Oper} {p q:Nat},(kX l p q)[p]?=(l[p]?).map λo=>{o with after:=o.after.push ⟨q,.data⟩}
 |[],_,_=>rfl
 |⟨d,op,ty,ps,af,gd⟩::r,0,q=>by simp[kX]
 |o::r,p+1,q=>by simp only[kX,ZO];exact vV
theorem Bf:∀{l:List Oper} {p q:Nat},(kX l p q).length=l.length
 |[],_,_=>rfl
 |⟨d,op,ty,ps,af,gd⟩::r,0,q=>by simp[kX]
 |o::r,p+1,q=>by simp[kX,Bf]
theorem lP{l:List Oper}{p:Nat}{listed:Array Bool}{i:Nat}:i∈Region.ready .any (kX l p q).toArray listed↔i∈Region.ready .any l.toArray listed/\(i=p->listed.getD q η=ζ):=by
 rw[mem_ready,mem_ready]
 simp only[Zz]
 by_cases h:i=p
 .subst h
  rw[vV]
  constructor
  .rintro⟨h1,o,ho,hd⟩
   rw[Option.map_eq_some_iff] at ho
   obtain⟨o',ho',rfl⟩:=ho
   exact⟨⟨h1,o',ho',λe he hb=>hd e (by simp[he]) hb⟩,λ_=>hd ⟨q,.data⟩ (by simp) rfl⟩
  grind
 rw[ti h]
 simp_all
theorem CX{l:List Oper}{p q:Nat}:∀(L:List Nat) (listed:Array Bool),listed.size=l.toArray.size->listed.getD q η=ζ->oV l.toArray listed L->oV (kX l p q).toArray listed L
 |[],listed,_,hq,h=>by
  show Region.ready .any (kX l p q).toArray listed=[]
  rw[ZA]
  intro i hi
  have:=(lP.1 hi).1
  have h':Region.ready .any l.toArray listed=[]:=h
  simp_all
 |i::L,listed,hsz,hq,h=>by
  refine⟨lP.2 ⟨h.1,λ_=>hq⟩,CX L _ (by simp_all) ?_ h.2⟩
  obtain⟨h1,_⟩:=lp hsz h.1
  rw[cF oaa]
  simp_all
theorem An{l:List Oper}{p q:Nat}(hpq:p≠q):∀(L:List Nat) (listed:Array Bool),listed.size=l.toArray.size->listed.getD p η=η->listed.getD q η=η->oV l.toArray listed L->oV (kX l p q).toArray listed L\/oV (kX l q p).toArray listed L
 |[],listed,_,_,_,h=>by
  left
  show Region.ready .any (kX l p q).toArray listed=[]
  rw[ZA]
  intro i hi
  have:=(lP.1 hi).1
  have h':Region.ready .any l.toArray listed=[]:=h
  simp_all
 |i::L,listed,hsz,hp,hq,h=>by
  have hs2:(listed.setIfInBounds i ζ).size=l.toArray.size:=by simpa using hsz
  obtain⟨h1,_⟩:=lp hsz h.1
  have hg:∀j,(listed.setIfInBounds i ζ).getD j η=if i=j then ζ else listed.getD j false:=λj=>cF oaa
  by_cases e1:i=q
  .left
   exact⟨lP.2 ⟨h.1,λe=>absurd (e.symm.trans e1) hpq⟩,CX L _ hs2 (by simp_all) h.2⟩
  by_cases e2:i=p
  .right
   exact⟨lP.2 ⟨h.1,λe=>absurd e e1⟩,CX L _ hs2 (by simp_all) h.2⟩
  rcases An hpq L _ hs2 (by simp_all) (by simp_all) h.2 with k|k
  .exact .inl ⟨lP.2 ⟨h.1,λe=>absurd e e2⟩,k⟩
  exact .inr ⟨lP.2 ⟨h.1,λe=>absurd e e1⟩,k⟩
section
variable{P:Program}{Q:Exit->Act->World->Prop}
theorem GK{l:List Oper}{p:Nat}(ts:Array Value)(j:Nat):yielded (kX l p q).toArray ts j=yielded l.toArray ts j:=by
 unfold yielded
 have:(((kX l p q).toArray)[j]?).bind (·.dst)=((l.toArray)[j]?).bind (·.dst):=by
  simp only[Zz]
  by_cases h:j=p
  .subst h;rw[vV];grind
  rw[ti h]
 rw[this]
theorem xU{l:List Oper}{p q:Nat}:∀(L:List Nat) (a:Act) (w:World),wpOps P (kX l p q).toArray Q L a w->wpOps P l.toArray Q L a w
 |[],_,_,h=>h
 |i::L,a,w,h=>by
  rw[wpOps_cons] at h ⊢
  have h':=wpOp_mono (λa w=>xU L a w) h
  unfold wpOp at h' ⊢
  have hy:yielded (kX l p q).toArray a.tmps=yielded l.toArray a.tmps:=funext (GK a.tmps)
  rw[hy] at h'
  simp only[Zz] at h' ⊢
  by_cases e:i=p
  .subst e
   rw[vV] at h'
   cases e2:l[i]? with
   |none=>simp_all
   |some o=>rw[e2] at h';exact h'
  rw[ti e] at h';exact h'
end
def rkO:List Nat->Nat->Nat
 |[],_=>0
 |i::is,k=>bif f4 i k then 0 else rkO is k+1
def Fh(ops:Array Oper)(is:List Nat):Bool:=
 (v0 ops.size).all λi=>match ops[i]? with
  |some o=>o.after.toList.all λe=>!Region.binds .any e||(nlt e.on ops.size&&nlt (rkO is e.on) (rkO is i))
  |none=>η
theorem Nf{ops:Array Oper}{is:List Nat}(h:Fh ops is=ζ):Edg ops (rkO is):=by
 intro i o ho e he hb
 have hi:i<ops.size:=by
  rcases Yx i ops.size with h|h
  .exact h
  simp_all
 have:=Yi.1 h i (by simp_all)
 simp only[ho] at this
 have:=Yi.1 this e (by simp_all)
 simp only[hb,Ze,Zu,hV] at this
 exact⟨cO this.1,cO this.2⟩
def AWA(P:Program)(N:Nat)(l:List Oper)(st:St)(K:St->Prop):Prop:=
 ∀cx E a w,Rel N cx E st a w->∀L,oV l.toArray (Ym l.toArray.size η) L->wpOps P l.toArray (B4 N cx (onN K)) L a {w with drawn:=w.drawn+1}
theorem DA{l:List Oper}{K:St->Prop}(p q:Nat)(hpq:f4 p q=η)(h1:AWA P N (kX l p q) st K)(h2:AWA P N (kX l q p) st K):AWA P N l st K:=by
 intro cx E a w hR L hv
 have e1:(kX l p q).toArray.size=l.toArray.size:=by simp[Bf]
 have e2:(kX l q p).toArray.size=l.toArray.size:=by simp[Bf]
 have hne:p≠q:=λe=>by simp_all
 rcases An hne L _ (by simp) (iv _ _) (iv _ _) hv with k|k
 .rw[<-e1] at k;exact xU L _ _ (h1 cx E a w hR L k)
 rw[<-e2] at k;exact xU L _ _ (h2 cx E a w hR L k)
theorem EV{l:List Oper}{K:St->Prop}(is:List Nat){r:List (Nat×Oper)}(he:Fh l.toArray is=ζ)(hc:Jp l.length is=ζ)(ho:Cc l is=ς r)(h:DZ P N l.toArray r [] [] [] st st K):AWA P N l st K:=by
 intro cx E a w hR L hv
 have hR':=yL hR
 have hedge:=Nf he
 have hfull:unl l.toArray (Ym l.toArray.size η)=l.toArray.size:=by
  unfold unl
  rw[ZC.2]
  .simp
  simp_all
 have:=PM (P:=P) (cx:=cx) (Q:=B4 N cx (onN K)) hedge (λE st a w hR hK=>⟨E,st,hR,hK⟩) h rfl (λq hq=>by have:=(qc ho).1 q hq;simp_all) (λj hj=>by
  have hj':j<l.length:=by simpa using hj
  have:=Yi.1 hc j (by simp_all)
  exact .inr (.inr ((qc ho).2 j (f6.1 this)))) (λi o y _ hy=>by simp at hy) (λk=>rfl) rfl rfl (Ym l.toArray.size η) a _ E (by simp) (λi o ho hd=>by rw[iv] at hd;cases hd) (λj=>by rw[iv];simp[iH]) hR'
 exact ED L _ _ _ _ hv (EC L _ (by simp) hv) this
theorem KT{l:List Oper}{AQ:Exit->St->Prop}(M:St)[c:Clo N AQ](hm:P.follows .mixedOrders=ζ)(h:AWA P N l st (λs=>cM N s M))(h2:AQ .normal M):AWC P N (.region id l.toArray ζ) st AQ:=by
 refine xZ (AQ:=onN λs=>cM N s M) ?_ (λe s h=>by
  cases e<;>first|exact c.h _ _ _ h h2|exact h.elim)
 intro cx E a w hR
 exact wp_region_draw λt=>by
  simp only[Region.schedule,hm,Bool.true_or,if_true]
  exact h cx E a w hR _ (Nv _ _ _ (by simp) (by
   unfold unl
   grind))
def cpD(els:List α)(off:Nat)(ys:List α):List α:=els.take off++cpL (els.drop off) ys
theorem TP{β:Type}(f:α->β)(els ys:List α)(off:Nat):cpD (els.map f) off (ys.map f)=(cpD els off ys).map f:=by simp[cpD,<-Zk,<-Zh,KY]
@[simp] theorem cpD_len (els ys:List α) (off:Nat):(cpD els off ys).length=els.length:=by simp[cpD];omega
section
variable{P:Program}{N:Nat}{d:Tmp}{ty:TypeId}{ps:String}{af:Array Edge}{gd:Option (Nat×Bool)}{x y z:Operand}{st:St}
theorem QY{by_ o len:Nat}{els ys:Lad}{c:C}[ht:dB P t e sz by_](hd:d<N)(hx:opT st.sl x= .v (.c (.s o sz off len)))(hy:opT st.sl y= .v (.c c))(ho:go st.ob o=ς (.row e sz els g ζ))(hs:Src st.ob c ys gy)(hn:els.length=off+len)(hsz:∀e∈ys,e.length=sz):
 AWO P N ⟨ς d,.call ⟨.builtin .copy,#[x,y],#[t,t]⟩,ty,ps,af,gd⟩ st ⟨(d,.any)::st.sl,(o,.row e sz (cpD els off ys) (g&&gy) ζ)::st.ob,st.nx⟩:=by
 intro cx E a w hR
 have h1:=hR.op x;rw[hx] at h1
 have h2:=hR.op y;rw[hy] at h2
 obtain⟨AA,cc,b,kk,hr,hu,hlc0,_,hAA⟩:=h1
 obtain⟨b',c',arr,hr',hh,ha,hlc,hmx,hes,hrd,hFm,_⟩:=hR.obs o _ ho
 rw[hr] at hr';cases hr'
 have hF:=hFm rfl
 obtain⟨A,k,hv,hyk,hA⟩:=Kw hR hs h2
 obtain⟨ii,zz,i1,i2,i3,i4,i5⟩:=ht.i
 obtain⟨m,hm⟩:∃m,m=Nat.min ys.length len:=⟨_,rfl⟩
 have hm1:m<=ys.length:=by rw[hm];exact Nat.min_le_left _ _
 have hm2:m<=len:=by rw[hm];exact Nat.min_le_right _ _
 have hcp:cpD els off ys=els.take off++ys.take m++els.drop (off+m):=by
  unfold cpD cpL
  rw[ZG,List.drop_drop,ZB,hn,show off+len-off=len by omega]
  congr 1
  rcases Nat.le_total ys.length len with h|h
  .grind
  simp_all
 have hsrc:∃news:Lae,news.length=m*sz/\(∀u∈news,u.oneCell'=ζ)/\(∀(j:Nat) (xd:D),(ys.take m).flatten[j]?=ς xd->∃u,news[j]?=ς u/\rdD w (E.H gy) xd u)/\
  (Builtin.firstCells sz m (.slice A ys.length k)).run P w= .ok news.toArray w:=by
  rcases hA with h0|⟨b2,off,rfl,hrd2⟩
  .subst h0
   have hm0:m=0:=by simpa using hm1
   refine⟨[],by simp[hm0],by simp,by simp,?_⟩
   cases A with
   |none=>rfl
   |some ad=>simp[Builtin.firstCells,hm0,loadCells,loadCellsFrom]
  obtain⟨us,q1,q2,q3,q4⟩:=qf (ew.1 (nY m hrd2))
  have ql:us.length=m*sz:=by
   rw[q1,eX (λe he=>hsz e (YG he)),Zd,Za hm1]
  refine⟨us,ql,q3,q4,?_⟩
  simp only[Builtin.firstCells]
  exact xb ql (λj u hj=>by have:=q2 j u hj;rwa [rK] at this)
 obtain⟨news,n1,n2,n3,n4⟩:=hsrc
 have hmul:off*sz+m*sz<=arr.size:=by rw[ha,<-Zt];exact YI _ oaa
 have hrun:∃w',w'=w.setRow b (arr.toList.take (off*sz)++news++arr.toList.drop (off*sz+m*sz)).toArray/\(Builtin.copy_ #[t,t] ty #[.slice AA len cc,.slice A ys.length k]).run P w= .ok (goInt m) w':=by
  refine⟨_,rfl,?_⟩
  rcases hAA with h0|rfl
  .have hm0:m=0:=by omega
   subst hm0
   have hn0:news=[]:=YD oaa
   subst hn0
   have hw:w.setRow b (arr.toList.take (off*sz)++[]++arr.toList.drop (off*sz+0*sz)).toArray=w:=by
    rw[ZH,YN,List.append_nil,ZD,YQ,setRow_self w b arr e (0,0) hh]
   rw[hw]
   simp only[Builtin.copy_]
   simp[underlying,ht.u,Builtin.lenOf,eA i1,i2]
   rw[<-hm,n4]
   cases AA<;>simp[storeCells]
  have hst:=run_storeCells_at (P:=P) b (off*sz) e news 0 arr w hh oaa n2
  simp only[YN,n1] at hst
  simp only[Builtin.copy_]
  simp[underlying,ht.u,Builtin.lenOf,eA i1,i2]
  simp_all
 obtain⟨w',hw',hrun⟩:=hrun
 unfold Oper.wp
 simp only[execOp,resolve,invoke,builtin,Sem.run_bind,Sem.run_pure,Result.andThen_ok,Zg,Yq,Y7,hu,hv,hrun,Oper.upon_value]
 subst hw'
 generalize hcs:(arr.toList.take (off*sz)++news++arr.toList.drop (off*sz+m*sz)).toArray=cs
 have hk:=jt (cs:=cs) (w:=w) hR.ok hr hF
 have hall:∀e'∈cpD els off ys,e'.length=sz:=λe' he'=>by
  grind
 have hlt:(arr.toList.take (off*sz)).length=off*sz:=by simp;omega
 have hrel:=tO (ob':=.row e sz (cpD els off ys) (g&&gy) ζ) (cs:=cs) hR hr hF ⟨b,_,_,hr,gL _ hh,by grind,by grind,hmx,hall,by
  rw[ew]
  refine lO λj xd hj=>?_
  rw[Yl,d7 (gL _ hh),show cs[j]?=(arr.toList.take (off*sz)++news++arr.toList.drop (off*sz+m*sz))[j]? by grind]
  rw[hcp,Zb,Zb] at hj
  have hft:(els.take off).flatten.length=off*sz:=by rw[eX (λe he=>hes e (YG he)),Zd,Za oaa]
  have hfl:(ys.take m).flatten.length=m*sz:=by rw[eX (λe he=>hsz e (YG he)),Zd,Za hm1]
  have old:∀(p:Nat) (xd:D),els.flatten[p]?=ς xd->∃u,arr[p]?=ς u/\rdD (w.setRow b cs) (E.H (g&&gy)) xd u:=λp xd hp=>by
   obtain⟨u,u1,u2⟩:=lc (ew.1 hrd) hp
   rw[Yl,d7 hh] at u1
   exact⟨u,u1,cm (hk.heap _) (hk.H _) _ _ (mj hR.ok u2 (by simp_all))⟩
  by_cases hj1:j<off*sz
  .rw[Yt (by grind),Yt oaa] at hj
   have hjd:els.flatten[j]?=ς xd:=by
    rw[<-ZD off els,Zb,Yt oaa];exact hj
   obtain⟨u,u1,u2⟩:=old _ _ hjd
   grind
  by_cases hjn:j<off*sz+m*sz
  .rw[Yt (by simp_all),Ys oaa,hft] at hj
   obtain⟨u,u1,u2⟩:=n3 _ _ hj
   exact⟨u,by grind,cm (hk.heap _) (hk.H _) _ _ (mj hR.ok u2 (by simp))⟩
  rw[Ys (by simp_all),YB,hft,hfl] at hj
  have hjd:els.flatten[j]?=ς xd:=by
   have e1:els.flatten=(els.take (off+m)).flatten++(els.drop (off+m)).flatten:=by rw[<-Zb,ZD]
   have e2:(els.take (off+m)).flatten.length=off*sz+m*sz:=by rw[eX (λe he=>hes e (YG he)),Zd,Za oaa,Zt]
   rw[e1,Ys oaa,e2];exact hj
  obtain⟨u,u1,u2⟩:=old _ _ hjd
  refine⟨u,?_,u2⟩
  have hl2:(arr.toList.take (off*sz)++news).length=off*sz+m*sz:=by rw[YB,hlt,n1]
  rw[Ys oaa,hl2,YL,show off*sz+m*sz+(j-(off*sz+m*sz))=j from by omega]
  simp_all,λ_=>hF,λh=>by cases h⟩
 exact⟨E,hrel.putAny hd _⟩
theorem cpsT{enc:α->List D}{ob:Laa}{by_ o:Nat}{ys zs:List α}{l:Int}{c:C}[dB P t e sz by_](H:fa ys l ys.length=ζ)(hzd:zs.map enc=zd:=by exact rfl)(henc:∀a,(enc a).length=sz:=by exact λ_=>rfl)(hd:nlt d N=true:=by exact rfl)(hx:opT sl x= .v (.c (.s o sz l.toNat (n-l.toNat))):=by exact rfl)(hy:opT sl y= .v (.c c):=by exact rfl)(hn:ys.length=n:=by first|rfl|simp)(hs:Src ob c zd gy:=by first|exact .d|exact .nil|exact .w rfl (by first|rfl|exact lm _|simp)|exact .wn rfl (by first|rfl|exact lm _|simp))(ho:go ob o=ς (.row e sz (ys.map enc) g ζ):=by exact rfl)(hg:(g&&gy)=gg:=by exact rfl):
 AWO P N ⟨ς d,.call ⟨.builtin .copy,#[x,y],#[t,t]⟩,ty,ps,af,gd⟩ ⟨sl,ob,nx⟩ ⟨(d,.any)::sl,(o,.row e sz ((cpD ys l.toNat zs).map enc) gg ζ)::ob,nx⟩:=by
 simp only[fa,decide_eq_true_eq] at H
 subst hzd;subst hg;subst hn
 have:=QY (P:=P) (N:=N) (st:=⟨sl,ob,nx⟩) (d:=d) (ty:=ty) (ps:=ps) (af:=af) (gd:=gd) (t:=t) (e:=e) (sz:=sz) (by_:=by_) (cO hd) hx hy ho hs (by simp_all) (B3 henc zs)
 rwa [TP] at this
theorem X4{o:Nat}{rt:TypeId}{els:Lad}{ob:Laa}(ho:go ob o=ς (.row rt sz els ζ ζ):=by exact rfl):cM N ⟨sl,ob,nx⟩ ⟨sl,(o,.row rt sz els η ζ)::ob,nx⟩:=by
 intro cx E a w hR
 refine⟨E,hR.ok,hR.dom,λl x hl=>?_,hR.sl,hR.dfr,hR.size,hR.td⟩
 by_cases e:o=l
 .subst e
  rw[b9] at hl;cases hl
  obtain⟨b,c,arr,hr,hh,h1,h2,h3,h4,h5,h6,h7⟩:=hR.obs _ _ ho
  exact⟨b,c,arr,hr,hh,h1,h2,h3,h4,cf (λ_ _=>rfl) (λb hb=>hR.ok.gf b hb) rfl _ _ h5,h6,λhm=>by cases hm⟩
 rw[bG _ _ e] at hl;exact hR.obs l x hl
end
def dCs:List C->Option (List D)
 |[]=>ς []
 | .d _ d::r=>(dCs r).map (d:: ·)
 |_=>ξ
def tAV:List T->Option (List AV)
 |[]=>ς []
 | .v (.agg cs)::r=>(dCs cs).bind λds=>(tAV r).map (.agg ds:: ·)
 | .v (.c (.d _ d))::r=>(tAV r).map (.c d:: ·)
 |_=>ξ
theorem Px{E:Env}{w:World}{F:Nat->Prop}(hH:∀g,E.H g=F):∀{cs:List C} {ds:List D} {us:Lae},dCs cs=ς ds->DV w F ds us->CV E w cs us
 |[],ds,us,h,hd=>by
  cases h
  cases us with
  |nil=>trivial
  |cons u us=>exact hd.elim
 | .d g d::r,ds,us,h,hd=>by
  cases e:dCs r with
  |none=>simp[dCs,e] at h
  |some x=>
   simp[dCs,e] at h;subst h
   cases us with
   |nil=>exact hd.elim
   |cons u us=>exact⟨by show rdD w (E.H g) d u;rw[hH];exact hd.1,Px hH e hd.2⟩
theorem Kz{E:Env}{w:World}{F:Nat->Prop}(hH:∀g,E.H g=F):∀{ts:List T} {as:List AV} {us:Lae},tAV ts=ς as->AR w F as us->TV E w ts us
 |[],as,us,h,hd=>by
  cases h
  cases us with
  |nil=>trivial
  |cons u us=>exact hd.elim
 | .v (.agg cs)::r,as,us,h,hd=>by
  cases e1:dCs cs with
  |none=>simp[tAV,e1] at h
  |some ds=>
   cases e2:tAV r with
   |none=>simp[tAV,e1,e2] at h
   |some x=>
    simp[tAV,e1,e2] at h;subst h
    cases us with
    |nil=>exact hd.elim
    |cons u us=>
     obtain⟨⟨arr,hu,hv⟩,h2⟩:=hd
     exact⟨⟨arr,hu,Px hH e1 hv⟩,Kz hH e2 h2⟩
 | .v (.c (.d g d))::r,as,us,h,hd=>by
  cases e2:tAV r with
  |none=>simp[tAV,e2] at h
  |some x=>
   simp[tAV,e2] at h;subst h
   cases us with
   |nil=>exact hd.elim
   |cons u us=>exact⟨by show rdD w (E.H g) d u;rw[hH];exact hd.1,Kz hH e2 hd.2⟩
theorem FnV.pure{as:List AV}{r:Bool}(h:FnV P f [] args [] (.v (.c (.d η (.b r)))) [])(ha:tAV args=ς as:=by exact rfl):Fn P f as [.c (.d (.b r))]:=by
 refine⟨h.enters,λF w vals hF hT hA=>?_⟩
 have hI:VIn {E0 0 0 F with r:=λ_=>ξ,G:=F} w:=⟨hF,λ_ h=>h,λo b c h=>(by cases h),λo o' b c c' h=>(by cases h),λ_ _ h=>h,λ_ h=>h⟩
 refine(h.calls {E0 0 0 F with r:=λ_=>ξ,G:=F} w vals hI hT (λk hk o c h=>by cases h) (λl x h=>by cases h) (Kz (λg=>by cases g<;>rfl) ha hA)).mono ?_
 rintro en w' ⟨v,E',hen,vo,hv,_,_⟩
 refine⟨v,λ_=>False,[],hen,⟨vo.past.os,vo.past.tape,vo.past.output,vo.past.size,λk hk hW=>vo.past.block k hk (λ⟨o,c',ho⟩=>by cases ho)⟩,λb h=>h.elim,⟨rfl,?_⟩,by simp⟩
 have:rdD w' (E'.H η) (.b r) v:=hv
 simpa [rdD] using this
theorem wkz(hr:R)(h:R->G:=by intro h;(repeat' (first|refine EX ?_|refine pR ?_|refine AB ?_|refine tl ?_|refine rN rfl ?_|refine pQ rfl ?_|refine EW ?_|refine Bk ?_|refine tn ?_|refine tr ?_|refine zo ?_|refine Bj ?_|refine te ?_|refine bx rfl ?_|refine bo rfl ?_|refine bn ?_|refine br ?_|refine Jw (by kernel_rfl) rfl ?_|((first|apply o6 rfl|apply Bm rfl rfl rfl rfl|apply gA rfl|apply K8 rfl rfl rfl rfl); · first|exact op rfl rfl rfl rfl|exact opa rfl rfl rfl rfl|exact oq rfl rfl rfl|exact oqa rfl rfl rfl|exact fp rfl rfl rfl|exact fq rfl rfl rfl|exact fe rfl rfl rfl|exact io rfl rfl rfl rfl|exact se rfl rfl rfl|exact bq rfl rfl rfl|exact qe rfl rfl rfl rfl rfl rfl rfl|exact sn rfl rfl rfl|exact bne rfl rfl rfl|exact qn rfl rfl rfl rfl rfl rfl rfl|exact mv1 rfl rfl|exact mv2 rfl rfl|exact mv3 rfl rfl|exact as1 rfl rfl|exact as2 rfl rfl|exact as3 rfl rfl|exact ldT rfl rfl|exact ld rfl rfl|exact lw rfl rfl|exact lwn rfl rfl|exact ls rfl rfl|exact ln rfl rfl|exact WD rfl rfl|exact lz rfl rfl|exact fz rfl rfl rfl|exact oz rfl rfl rfl|exact oza rfl rfl rfl|exact un rfl rfl|exact ng rfl rfl|exact ba rfl rfl rfl|exact bc rfl rfl rfl rfl|exact al rfl rfl|exact pk1 rfl rfl rfl|exact pk0 rfl rfl rfl|exact ex rfl rfl rfl|exact nc rfl rfl|exact fv rfl rfl rfl|exact fva rfl rfl rfl|exact bd rfl rfl rfl|exact bs rfl rfl rfl rfl rfl rfl rfl rfl|exact cv rfl rfl|exact bt1 rfl rfl|exact ib rfl rfl rfl rfl)|(apply eV rfl; · first|exact sp rfl rfl rfl rfl rfl rfl rfl|exact stz rfl rfl rfl rfl)|refine gs rfl rfl rfl rfl rfl rfl ?_|refine zgs rfl rfl rfl rfl rfl rfl rfl ?_|fail));exact h):G:=h hr
theorem wkb(hr:R)(h:R->G:=by intro h;(repeat' (first|refine EX ?_|refine pR ?_|refine AB ?_|refine tl ?_|refine rN rfl ?_|refine pQ rfl ?_|refine EW ?_|refine Bk ?_|refine tn ?_|refine tr ?_|refine zo ?_|refine Bj ?_|refine te ?_|refine bx rfl ?_|refine bo rfl ?_|refine bn ?_|refine br ?_|refine Jw (by kernel_rfl) rfl ?_|((first|apply o6 rfl|apply Bm rfl rfl rfl rfl|apply gA rfl|apply K8 rfl rfl rfl rfl); · first|exact op rfl rfl rfl rfl|exact opa rfl rfl rfl rfl|exact oq rfl rfl rfl|exact oqa rfl rfl rfl|exact fp rfl rfl rfl|exact fq rfl rfl rfl|exact fe rfl rfl rfl|exact io rfl rfl rfl rfl|exact se rfl rfl rfl|exact bq rfl rfl rfl|exact qe rfl rfl rfl rfl rfl rfl rfl|exact sn rfl rfl rfl|exact bne rfl rfl rfl|exact qn rfl rfl rfl rfl rfl rfl rfl|exact mv1 rfl rfl|exact mv2 rfl rfl|exact mv3 rfl rfl|exact as1 rfl rfl|exact as2 rfl rfl|exact as3 rfl rfl|exact ldT rfl rfl|exact ld rfl rfl|exact lw rfl rfl|exact lwn rfl rfl|exact ls rfl rfl|exact ln rfl rfl|exact WD rfl rfl|exact lz rfl rfl|exact fz rfl rfl rfl|exact oz rfl rfl rfl|exact oza rfl rfl rfl|exact un rfl rfl|exact ng rfl rfl|exact ba rfl rfl rfl|exact bc rfl rfl rfl rfl|exact al rfl rfl|exact pk1 rfl rfl rfl|exact pk0 rfl rfl rfl|exact ex rfl rfl rfl|exact nc rfl rfl|exact fv rfl rfl rfl|exact fva rfl rfl rfl|exact bd rfl rfl rfl|exact cv rfl rfl|exact bt1 rfl rfl|exact ib rfl rfl rfl rfl)|(apply eV rfl; · first|exact sp rfl rfl rfl rfl rfl rfl rfl|exact stz rfl rfl rfl rfl)|refine gs rfl rfl rfl rfl rfl rfl ?_|refine zgs rfl rfl rfl rfl rfl rfl rfl ?_|fail));exact h):G:=h hr
inductive F where
 |s (d:D)
 |l (t z:Nat) (e:Lad) (n:Nat)
inductive LM where
 |t
 |f
 |z
 |w (o:Nat)
 |n (o:Nat)
def LM.c:LM->Lad->Nat->C
 | .t,e,_=>.d ζ (.l e)
 | .f,e,_=>.d η (.l e)
 | .z,_,_=>.nil
 | .w o,_,k=>.w o k
 | .n o,_,k=>.wn o k
def kM:List LM->List F->List C
 |ms,.s d::r=>.d η d::kM ms r
 |m::ms,.l _ _ e n::r=>m.c e n::kM ms r
 |_,_=>[]
def LM.o:LM->Nat->Nat->Lad->Laa->Laa
 | .w o,a,b,e,r=>(o,.row a b e ζ ζ)::r
 | .n o,a,b,e,r=>(o,.rown a b e ζ)::r
 |_,_,_,_,r=>r
def rM:List LM->List F->Laa->Laa
 |ms,.s _::r,q=>rM ms r q
 |m::ms,.l t z e _::r,q=>m.o t z e (rM ms r q)
 |_,_,q=>q
def oM(ms:List LM)(o ty:Nat)(x:List F):Laa:=rM ms x [(o,.var ty (kM ms x))]
inductive RM where
 |d
 |o
 |z
def RM.c:RM->Nat->Nat->Lad->Nat->RC
 | .d,_,_,e,_=>.d (.l e)
 | .o,a,b,e,n=>.own a b e n
 | .z,_,_,_,_=>.nil
def qM:List RM->List F->List RC
 |ms,.s d::r=>.d d::qM ms r
 |m::ms,.l t z e n::r=>m.c t z e n::qM ms r
 |_,_=>[]
abbrev tP(o:Nat):T:=.v (.c (.p o 0))
def m0:Lac:=[(190,190),(191,191),(192,192),(193,193),(200,200)]
section
variable{P:Program}{N:Nat}{st st':St}{i:Inf}{d:Tmp}{ty t t2:TypeId}{x y z:Operand}{f:Nat}{bo:BinOp}{uo:UnOp}{as:Array Operand}{tys:Array TypeId}{ps:String}{af:Array Edge}{gd:Option (Nat×Bool)}
theorem kMv(h:NS P N ⟨ς d,.move x,ty,ps,af,gd⟩ st st' i):NS P N ⟨ς d,.move x,ty,ps,af,gd⟩ st st' i:=h
theorem kLd(h:NS P N ⟨ς d,.load t x,ty,ps,af,gd⟩ st st' i):NS P N ⟨ς d,.load t x,ty,ps,af,gd⟩ st st' i:=h
theorem kAs(h:NS P N ⟨ς d,.assign x,ty,ps,af,gd⟩ st st' i):NS P N ⟨ς d,.assign x,ty,ps,af,gd⟩ st st' i:=h
theorem kFa(h:NS P N ⟨ς d,.fieldAddr t x f,ty,ps,af,gd⟩ st st' i):NS P N ⟨ς d,.fieldAddr t x f,ty,ps,af,gd⟩ st st' i:=h
theorem kBo(h:NS P N ⟨ς d,.binOp bo t x y t2,ty,ps,af,gd⟩ st st' i):NS P N ⟨ς d,.binOp bo t x y t2,ty,ps,af,gd⟩ st st' i:=h
theorem kLn(h:NS P N ⟨ς d,.call ⟨.builtin .len,as,tys⟩,ty,ps,af,gd⟩ st st' i):NS P N ⟨ς d,.call ⟨.builtin .len,as,tys⟩,ty,ps,af,gd⟩ st st' i:=h
theorem kUn(h:NS P N ⟨ς d,.unOp uo t x,ty,ps,af,gd⟩ st st' i):NS P N ⟨ς d,.unOp uo t x,ty,ps,af,gd⟩ st st' i:=h
theorem kFv(h:NS P N ⟨ς d,.field t x f,ty,ps,af,gd⟩ st st' i):NS P N ⟨ς d,.field t x f,ty,ps,af,gd⟩ st st' i:=h
theorem kPk(h:NS P N ⟨ς d,.pick x y z,ty,ps,af,gd⟩ st st' i):NS P N ⟨ς d,.pick x y z,ty,ps,af,gd⟩ st st' i:=h
theorem kBx(h:NS P N ⟨ς d,.box t x,ty,ps,af,gd⟩ st st' i):NS P N ⟨ς d,.box t x,ty,ps,af,gd⟩ st st' i:=h
theorem kCv(h:NS P N ⟨ς d,.convert t t2 x,ty,ps,af,gd⟩ st st' i):NS P N ⟨ς d,.convert t t2 x,ty,ps,af,gd⟩ st st' i:=h
end
theorem wJ(h:R->G:=by(intro h;(repeat' (first|refine EX ?_|refine pR ?_|refine AB ?_|refine tl ?_|refine rN rfl ?_|refine pQ rfl ?_|refine EW ?_|refine Bk ?_|refine tn ?_|refine tr ?_|refine zo ?_|refine Bj ?_|refine te ?_|refine bx rfl ?_|refine bo rfl ?_|refine bn ?_|refine br ?_|refine Jw (by kernel_rfl) rfl ?_|refine Wl ⟨by kernel_rfl,?_⟩|((first|apply o6 rfl|apply Bm rfl rfl rfl rfl|apply gA rfl|apply K8 rfl rfl rfl rfl|apply Wk rfl|apply PG rfl rfl rfl rfl); · first|(apply kMv;first|exact mv1 rfl rfl|exact mv2 rfl rfl|exact mv3 rfl rfl)|(apply kLd;first|exact op rfl rfl rfl rfl|exact opa rfl rfl rfl rfl|exact oq rfl rfl rfl|exact oqa rfl rfl rfl|exact oz rfl rfl rfl|exact oza rfl rfl rfl)|(apply kAs;first|exact as1 rfl rfl|exact as2 rfl rfl|exact as3 rfl rfl)|(apply kFa;first|exact fp rfl rfl rfl|exact fq rfl rfl rfl|exact fe rfl rfl rfl|exact fz rfl rfl rfl)|(apply kBo;first|exact iqT rfl rfl rfl rfl|exact iqF rfl rfl rfl rfl|exact io rfl rfl rfl rfl|exact se rfl rfl rfl|exact bq rfl rfl rfl|exact qe rfl rfl rfl rfl rfl rfl rfl|exact sn rfl rfl rfl|exact bne rfl rfl rfl|exact qn rfl rfl rfl rfl rfl rfl rfl|exact ib rfl rfl rfl rfl)|exact nc rfl rfl|(apply kLn;first|exact ldT rfl rfl|exact ld rfl rfl|exact lw rfl rfl|exact lwn rfl rfl|exact ls rfl rfl|exact ln rfl rfl|exact WD rfl rfl|exact lz rfl rfl)|exact bd rfl rfl rfl|exact bs rfl rfl rfl rfl rfl rfl rfl rfl|(apply kUn;first|exact un rfl rfl|exact ng rfl rfl)|(apply kFv;first|exact fv rfl rfl rfl|exact fva rfl rfl rfl)|exact al rfl rfl|exact ex rfl rfl rfl|(apply kPk;first|exact pk1 rfl rfl rfl|exact pk0 rfl rfl rfl)|(apply kBx;first|exact ba rfl rfl rfl|exact bc rfl rfl rfl rfl)|(apply kCv;first|exact cv rfl rfl|exact bt1 rfl rfl))|(apply eV rfl; · first|exact sp rfl rfl rfl rfl rfl rfl rfl|exact stz rfl rfl rfl rfl)|refine gs rfl rfl rfl rfl rfl rfl ?_|refine zgs rfl rfl rfl rfl rfl rfl rfl ?_|refine dgs rfl rfl rfl rfl rfl rfl rfl ?_|fail));exact h)):R->G:=h
theorem wI(hr:R)(h:R->G:=by exact wJ):G:=h hr
theorem wo{st':St}(h1:LeS st.sl st'.nx st'.sl:=by repeat (first|exact θ|refine⟨rfl,rfl,?_⟩|refine⟨wn rfl (by first|rfl|simp),rfl,?_⟩|refine⟨wnn rfl (by first|rfl|simp),rfl,?_⟩))(h2:LeO st.ob st'.nx st'.ob:=by repeat (first|exact θ|refine⟨rfl,⟨rfl,rfl⟩,?_⟩)):cM N st st':=cq h1 h2
section
variable{P:Program}{N:Nat}{st st':St}{AQ:Exit->St->Prop}{ops:Array Oper}{l:List Oper}{o:Oper}{x:Inf}{K:St->Prop}{R:Prop}
theorem nA(h:NS P N o st st' x)(hr:R)(hg:o.guard=none:=by exact rfl)(w:R->AWR P N ops l st' K:=by exact wJ):AWR P N ops (o::l) st K:=o6 hg h (w hr)
theorem nG{dj:Tmp}(h:NS P N o st st' x)(hr:R)(hg:o.guard=ς (j,b):=by exact rfl)(hj:(ops[j]?).bind (·.dst)=ς dj:=by exact rfl)(hdj:nlt dj N=true:=by exact rfl)(hb:gt st.sl dj=tB b:=by exact rfl)(w:R->AWR P N ops l st' K:=by exact wJ):AWR P N ops (o::l) st K:=Bm hg hj hdj hb h (w hr)
theorem sA(h:AWO P N o st st')(hr:R)(hg:o.guard=none:=by exact rfl)(w:R->AWR P N ops l st' K:=by exact wJ):AWR P N ops (o::l) st K:=eV hg h (w hr)
theorem sG{dj:Tmp}(h:AWO P N o st st')(hr:R)(hg:o.guard=ς (j,b):=by exact rfl)(hj:(ops[j]?).bind (·.dst)=ς dj:=by exact rfl)(hdj:nlt dj N=true:=by exact rfl)(hb:gt st.sl dj=tB b:=by exact rfl)(w:R->AWR P N ops l st' K:=by exact wJ):AWR P N ops (o::l) st K:=fX hg hj (cO hdj) hb h (w hr)
theorem cC{c:Operand}{Y:Code}{p q r:Option α}{R0:Prop}(H:(bif b then p else q)=r)(h1:p=r->R1)(h0:q=r->R0)(hb:opT st.sl c=tB b:=by exact rfl)(w1:R1->AWC P N X st AQ:=by exact wJ)(w0:R0->AWC P N Y st AQ:=by exact wJ):AWC P N (.cond c X Y) st AQ:=
 fm hb (λh=>w1 (h1 (bt h H))) (λh=>w0 (h0 (bf h H)))
theorem jA{R2:Prop}(M:St)[c:Clo N AQ](h1:R1)(h2:R2)(w1:R1->AWC P N X st (rH (λs=>cM N s M) AQ):=by exact wJ)(w2:R2->AQ .normal M:=by exact wJ):AWC P N X st AQ:=km M (w1 h1) (w2 h2)
theorem jB{R2:Prop}(M:St)[c:Clo N AQ](h1:R1)(h2:R2)(w1:R1->AWC P N X st (iY id (rH (λs=>cM N s M) AQ)):=by exact wJ)(w2:R2->AQ .normal M:=by exact wJ):AWC P N X st (iY id AQ):=iX M (w1 h1) (w2 h2)
theorem jR{R2:Prop}(M:St)[c:C8 N K](h1:R1)(h2:R2)(w1:R1->AWR P N ops l st (λs=>cM N s M):=by exact wJ)(w2:R2->K M:=by exact wJ):AWR P N ops l st K:=yb M (w1 h1) (w2 h2)
theorem zI(is:List Nat){ll:List Oper}{r:List (Nat×Oper)}(hr:R)(hm:P.follows .mixedOrders=true:=by exact Try.follows)(he:AG ll.toArray=true:=by kernel_rfl)(hc:Jp ll.length is=true:=by kernel_rfl)(ho:Cc ll is=ς r:=by exact rfl)(w:R->DZ P N ll.toArray r [] [] [] st st (λs=>AQ .normal s):=by exact wJ):AWC P N (.region id ll.toArray ζ) st AQ:=jT is hm he hc ho (w hr)
theorem dI{ll:List Oper}(hr:R)(hm:P.follows .mixedOrders=true:=by exact Try.follows)(hol:Q9 st.nx st.ob=true:=by exact rfl)(w:R->DR P N ll.toArray ll [] st (λis t=>xB ll.toArray is st.nx=ζ/\AQ .normal t):=by exact wJ):AWC P N (.region id ll.toArray ζ) st AQ:=Pf hm hol (w hr)
section
variable{KK:List Inf->St->Prop}{is:List Inf}
theorem dA(h:NS P N o st st' x)(hr:R)(hg:o.guard=none:=by exact rfl)(w:R->DR P N ops l (is++[x]) st' KK:=by exact wJ):DR P N ops (o::l) is st KK:=Wk hg h (w hr)
theorem dG{dj:Tmp}(h:NS P N o st st' x)(hr:R)(hg:o.guard=ς (j,b):=by exact rfl)(hj:(ops[j]?).bind (·.dst)=ς dj:=by exact rfl)(hdj:nlt dj N=true:=by exact rfl)(hb:gt st.sl dj=tB b:=by exact rfl)(w:R->DR P N ops l (is++[{x with needs:=(.tmp dj,tB b)::x.needs}]) st' KK:=by exact wJ):DR P N ops (o::l) is st KK:=PG hg hj hdj hb h (w hr)
end
section
variable{α:Type}{p q r:Option α}{R1 R0:Prop}{j:Nat}{dj:Tmp}{b c:Bool}{sl:Lab}{ob:Laa}{nx:Nat}
theorem gC(H:(bif c then p else q)=r)(h1:p=r->R1)(h0:q=r->R0)(hg:o.guard=ς (j,b):=by exact rfl)(hj:(ops[j]?).bind (·.dst)=ς dj:=by exact rfl)(hb:gt sl dj=tB c:=by exact rfl)(w1:R1->AWR P N ops (o::l) ⟨(dj,tB ζ)::sl,ob,nx⟩ K:=by exact wJ)(w0:R0->AWR P N ops (o::l) ⟨(dj,tB η)::sl,ob,nx⟩ K:=by exact wJ):AWR P N ops (o::l) ⟨sl,ob,nx⟩ K:=
 g2 hg hj hb (λh=>w1 (h1 (bt h H))) (λh=>w0 (h0 (bf h H)))
theorem dC{is:List Inf}{KK:List Inf->St->Prop}(H:(bif c then p else q)=r)(h1:p=r->R1)(h0:q=r->R0)(hg:o.guard=ς (j,b):=by exact rfl)(hj:(ops[j]?).bind (·.dst)=ς dj:=by exact rfl)(hb:gt sl dj=tB c:=by exact rfl)(w1:R1->DR P N ops (o::l) is ⟨(dj,tB ζ)::sl,ob,nx⟩ KK:=by exact wJ)(w0:R0->DR P N ops (o::l) is ⟨(dj,tB η)::sl,ob,nx⟩ KK:=by exact wJ):DR P N ops (o::l) is ⟨sl,ob,nx⟩ KK:=
 dg2 hg hj hb (λh=>w1 (h1 (bt h H))) (λh=>w0 (h0 (bf h H)))
end
section
variable{lz:List (Nat×Oper)}{dn seg:List Nat}{ys:List Inx}{base:St}{p:Nat}{y:Inx}
theorem zA(h:NS P N o st st' x)(hr:R)(hg:o.guard=none:=by exact rfl)(w:R->DZ P N ops lz dn (seg++[p]) (ys++[⟨x,[],ξ⟩]) base st' K:=by exact wJ):DZ P N ops ((p,o)::lz) dn seg ys base st K:=gA hg h (w hr)
theorem wA(h:NX P N o st st' y)(hr:R)(hg:o.guard=none:=by exact rfl)(w:R->DZ P N ops lz dn (seg++[p]) (ys++[y]) base st' K:=by exact wJ):DZ P N ops ((p,o)::lz) dn seg ys base st K:=pU hg h (w hr)
theorem zB{st0 st1 st2:St}{dn':List Nat}(hw:cM N st st0)(h:BO P N ops o st0 st1)(hw2:cM N st1 st2)(hr:R)(hs:vw ops dn seg ys=true:=by kernel_rfl)(hkl:kls ys=[]:=by exact rfl)(hb:Bo ops (seg++dn) p=true:=by kernel_rfl)(hlo:p::(seg++dn)=dn':=by exact rfl)(w:R->DZ P N ops lz dn' [] [] st2 st2 K:=by exact wJ):DZ P N ops ((p,o)::lz) dn seg ys base st K:=tx hs hkl hb hw h hw2 hlo (w hr)
theorem zC{a q r:Option α}{R0:Prop}{dj:Tmp}{c:Bool}{ob:Laa}(H:(bif c then a else q)=r)(h1:a=r->R1)(h0:q=r->R0)(hg:o.guard=ς (j,b):=by exact rfl)(hj:(ops[j]?).bind (·.dst)=ς dj:=by exact rfl)(hb:gt sl dj=tB c:=by exact rfl)(w1:R1->DZ P N ops ((p,o)::lz) dn seg ys base ⟨(dj,tB ζ)::sl,ob,nx⟩ K:=by exact wJ)(w0:R0->DZ P N ops ((p,o)::lz) dn seg ys base ⟨(dj,tB η)::sl,ob,nx⟩ K:=by exact wJ):DZ P N ops ((p,o)::lz) dn seg ys base ⟨sl,ob,nx⟩ K:=
 zg2 hg hj hb (λh=>w1 (h1 (bt h H))) (λh=>w0 (h0 (bf h H)))
end
theorem aW(hw:cM N st st')(hr:R)(w:R->AWR P N ops l st' K:=by exact wJ):AWR P N ops l st K:=eC hw (w hr)
theorem iT{c:Code}{σ:Type}{step:σ->Option (cH σ ρ)}{x0:σ}{r:ρ}(H:iter step n x0=ς r)(S:σ->St)(round:∀x o,step x=ς o->AWC P N c (S x) (eN N S r o AQ))(h0:cM N st (S x0):=by exact wo):AWC P N (.loop c) st AQ:=jy S H h0 round
end
theorem wB{ob:Laa}(o:Nat)(k:Nat)(hs:vT o k sl=ς sl':=by exact rfl)(ho:Du o k ob=ς ob':=by exact rfl)(he:Eqs (KI o k sl):=by repeat (first|exact θ|refine⟨by first|rfl|simp,?_⟩))(he2:Eqs (I7 o k ob):=by repeat (first|exact θ|refine⟨by first|rfl|simp,?_⟩)):cM N ⟨sl,ob,nx⟩ ⟨sl',ob',nx⟩:=gx hs ho he he2
theorem wS{ob:Laa}(p q:Nat)(hp:rsv p=false:=by exact rfl)(hq:rsv q=false:=by exact rfl)(hpn:nlt p nx=true:=by exact rfl)(hqn:nlt q nx=true:=by exact rfl):cM N ⟨sl,ob,nx⟩ ⟨swS p q sl,swO p q ob,nx⟩:=vS hp hq hpn hqn
theorem fI{c:Code}{args:List AV}(hf:P.funcs[f]?=ς fn)(hN:fn.ntmps=N)(hr:R)(hb:fn.body=ς c:=by exact rfl)(hnm:(fn.name== "runtime.NumGoroutine")=false:=by kernel_rfl)(hrs:fn.results.toList=rs:=by exact rfl)(ha:Yk args.length N=true:=by exact rfl)(hs:GW 0 args=ς sl0:=by exact rfl)(w:R->AWC P N c ⟨sl0,[],0⟩ (th N P rs res):=by exact wJ):Fn P f args res:=VD hf hb hnm hN hrs ha hs (w hr)
theorem fW{c:Code}(hf:P.funcs[f]?=ς fn)(hN:fn.ntmps=N)(hr:R)(hb:fn.body=ς c:=by exact rfl)(hnm:(fn.name== "runtime.NumGoroutine")=false:=by kernel_rfl)(hrs:fn.results.toList=rs:=by exact rfl)(ha:Yk args.length N=true:=by exact rfl)(hfx:x.free=true:=by exact rfl)(hfy:y.free=true:=by exact rfl)(hs:tk 0 args=sl0:=by exact rfl)(w:R->AWC P N c ⟨sl0,[(200,x)],210⟩ (pL N P rs res y):=by exact wJ):FnW P f x args y res:=P4 hf hb hnm hN hrs ha hfx hfy hs (w hr)
theorem fV{c:Code}{xs ys:Laa}(hf:P.funcs[f]?=ς fn)(hN:fn.ntmps=N)(hr:R)(hb:fn.body=ς c:=by exact rfl)(hnm:(fn.name== "runtime.NumGoroutine")=false:=by kernel_rfl)(hrs:fn.results.toList=rs:=by exact rfl)(ha:Yk args.length N=true:=by exact rfl)(hs:tk 0 args=sl0:=by exact rfl)(w:R->AWC P N c ⟨sl0,xs,210⟩ (md N P rs ys out nw):=by exact wJ):FnV P f xs args ys out nw:=Fl hf hb hnm hN hrs ha hs (w hr)
theorem aa{β:Type}{p:Option α}{f:α->Option β}{y:β}(H:p.bind f=ς y)(k:∀x,p=ς x->f x=ς y->G):G:=by
 obtain⟨x,h1,h2⟩:=ob H
 exact k x h1 h2
theorem ai(H:p)(h:p->G:=by(intro H;cases H;exact wo)):G:=h H
theorem ao(H:p)(h:p->G:=by(intro H;cases H;exact dK)):G:=h H
theorem aN(H:p)(h:p->G:=by(intro H;cases H;refine qF ?_;exact wo)):G:=h H
theorem aE(H:p)(h:p->G:=by(intro H;cases H;refine wQ (λhq=>?_);cases hq;refine wI ?_;exact wo)):G:=h H
theorem aR{AQ:Exit->St->Prop}{σ:Type}{m:Option ρ}{o:cH σ ρ}{S:σ->St}{e:Exit}(H:dn m=ς o)(k:m=ς r->R)(he:∀r',(r'=r->AQ e s)->eN N S r (.done r') AQ e s:=by(intro r' h;first|exact wQ h|exact iq_r h))(w:R->AQ e s:=by exact wJ):eN N S r o AQ e s:=by
 obtain⟨r0,Hd,rfl⟩:=dnE H
 exact he r0 λhq=>w (k (Hd.trans (congrArg ς hq)))
theorem aQ(H:p)(h:p->G:=by(intro H;refine aR H λH=>?_;exact ao H)):G:=h H
theorem ad(hr:R)(h:R->G:=by(intro h;(try dsimp only);revert h;exact wJ)):G:=h hr
theorem az(H:p)(h:p->G:=by(intro H;repeat' (first|(refine gC H ?_ ?_<;>intro H)|(refine cC H ?_ ?_<;>intro H)|exact ai H))):G:=h H
theorem ay(H:p)(h:p->G:=by(intro H;repeat' (first|(refine cC H ?_ ?_<;>intro H)|(refine gC H ?_ ?_<;>intro H)|exact ao H))):G:=h H
theorem au:(∀{α β:Type} (a:α) (f:α->Option β),Option.bind (ς a) f=f a)/\(∀{α:Type} (a b:α),cond ζ a b=a)/\(∀{α:Type} (a b:α),cond η a b=b)/\(!true)=η/\(!false)=true:=⟨λ_ _=>rfl,λ_ _=>rfl,λ_ _=>rfl,rfl,rfl⟩
class FC(P:Program)(p:Prop)(f:outParam FuncId)(as:outParam (List AV))(rs:outParam (List RV)):Prop where
 h:p->Fn P f as rs
def T.isAny:T->Bool
 | .any=>ζ
 |_=>η
theorem T.isAny_eq{t:T}(h:t.isAny=ζ):t= .any:=by cases t<;>simp_all [T.isAny]
def fS:List Nat->Lab->Lab
 |_,[]=>[]
 |ks,(k,t)::r=>bif iH ks k then fS ks r else bif T.isAny t then fS (k::ks) r else(k,t)::fS (k::ks) r
def fO:List Nat->Laa->Laa
 |_,[]=>[]
 |ks,(k,x)::r=>bif iH ks k then fO ks r else(k,x)::fO (k::ks) r
def hasN(os:List Nat)(t:T):Bool:=os.any λo=>t.has o
def xS(os:List Nat):Lab->Lab
 |[]=>[]
 |(k,t)::r=>(k,bif hasN os t then .any else t)::xS os r
theorem VC{k:Nat}:∀{sl:Lab} {ks:List Nat},gt (fS ks sl) k=bif iH ks k then .any else gt sl k
 |[],ks=>by simp[fS,gt]
 |(j,t)::r,ks=>by
  have ih:=λks=>VC (k:=k) (sl:=r) (ks:=ks)
  rw[fS]
  cases hj:iH ks j with
  |true=>
   rw[cond_true,ih]
   by_cases h:j=k
   .subst h;rw[hj];rfl
   rw[cy _ _ h]
  |false=>
   rw[cond_false]
   have hm:iH (j::ks) k=(f4 j k||iH ks k):=by
    by_cases h:j=k<;>simp_all [iH,jo]
   cases ha:t.isAny with
   |true=>
    rw[cond_true,ih,hm]
    by_cases h:j=k
    .subst h;rw[hj,cW,T.isAny_eq ha];simp
    rw[cy _ _ h,jo h];rfl
   |false=>
    rw[cond_false]
    by_cases h:j=k
    .subst h;rw[hj,cond_false,cW,cW]
    rw[cy _ _ h,cy _ _ h,ih,hm,jo h];rfl
theorem VB{k:Nat}:∀{ob:Laa} {ks:List Nat},go (fO ks ob) k=bif iH ks k then ξ else go ob k
 |[],ks=>by simp[fO,go]
 |(j,x)::r,ks=>by
  have ih:=λks=>VB (k:=k) (ob:=r) (ks:=ks)
  rw[fO]
  cases hj:iH ks j with
  |true=>
   rw[cond_true,ih]
   by_cases h:j=k
   .subst h;rw[hj];rfl
   rw[bG _ _ h]
  |false=>
   rw[cond_false]
   have hm:iH (j::ks) k=(f4 j k||iH ks k):=by
    by_cases h:j=k<;>simp_all [iH,jo]
   by_cases h:j=k
   .subst h;rw[hj,cond_false,b9,b9]
   rw[bG _ _ h,bG _ _ h,ih,hm,jo h];rfl
theorem SZ{m:St}(h:cM N s ⟨fS [] m.sl,fO [] m.ob,m.nx⟩):cM N s m:=λcx E a w hR=>by
 obtain⟨E',h⟩:=h cx E a w hR
 refine⟨E',h.ok,h.dom,λo ob ho=>h.obs o ob ?_,λk=>?_,h.dfr,h.size,h.td⟩
 .show go (fO [] m.ob) o=ς ob
  rw[VB];exact ho
 have:=h.sl k
 rw[show gt (fS [] m.sl) k=gt m.sl k from VC] at this
 exact this
theorem wf{st':St}(h1:LeS st.sl st'.nx (fS [] st'.sl):=by repeat (first|exact θ|refine⟨rfl,rfl,?_⟩|refine⟨wn rfl (by first|rfl|simp),rfl,?_⟩|refine⟨wnn rfl (by first|rfl|simp),rfl,?_⟩))(h2:LeO st.ob st'.nx (fO [] st'.ob):=by repeat (first|exact θ|refine⟨rfl,⟨rfl,rfl⟩,?_⟩)):cM N st st':=SZ (cq h1 h2)
def Po:T->List C
 | .v (.agg cs)=>cs
 | .v (.c c)=>[c]
 |_=>[]
def rcsV:RV->List RC
 | .agg xs=>xs
 | .c x=>[x]
def N5(sl:Lab)(ob:Laa):ResultVar->List C×Nat×Bool
 | .tmp k=>(Po (gt sl k),k,ζ)
 | .cell p _=>match gt sl p with
  | .v (.c (.p o _))=>match go ob o with
   |some (.var _ cs)=>(cs,o,η)
   |_=>([],0,ζ)
  |_=>([],0,ζ)
section
variable{N:Nat}{P:Program}{rs:List ResultVar}{res:List RV}{e:Exit}{sl:Lab}{ob:Laa}{nx o k:Nat}
end
class FCV(P:Program)(p:Prop)(f:outParam FuncId)(xs:outParam Laa)(as:outParam (List T))(ys:outParam Laa)(out:outParam T)(nw:outParam Laa):Prop where
 h:p->FnV P f xs as ys out nw
def nlM:Laa->Nat->Lac
 |[],_=>[]
 |(l,_)::r,n=>(l,n)::nlM r (n+1)
def nlN:Laa->Nat->Nat
 |[],n=>n
 |_::r,n=>nlN r (n+1)
section
variable{P:Program}{N:Nat}{d:Tmp}{ty:TypeId}{ps:String}{af:Array Edge}{gd:Option (Nat×Bool)}{f:FuncId}{args:List Operand}{tys:Array TypeId}{sl sl':Lab}{ob ob' ob1 ob2:Laa}{nx:Nat}{ts ts':List T}{xs ys ys' nw nw':Laa}{out out':T}{p:Prop}
theorem cvU{as:List T}{out0:T}(q:p)[i:FCV P p f [] as [] out0 nw](ht:pj sl args=ς ts:=by exact rfl)(ha:p6 (agC ζ ob (inv [])) ts=ς ts':=by exact rfl)(hd:p6 dnC ts'=ς as:=by exact rfl)(hu:upT out0=out:=by exact rfl)(hm:mOK [] (nlM nw nx) nx (nlN nw nx) []=true:=by exact rfl)(hs:tH (kvC (inv [])) sl=ς sl':=by exact rfl)(hb:sD (kvC (inv [])) (λ_ x=>ς x) ob=ς ob':=by exact rfl)(hw:qg ([]++nlM nw nx) nw=ς nw':=by exact rfl)(ho:wV (rlC ([]++nlM nw nx)) out=ς out':=by exact rfl)(hsl:wY nx sl=true:=by exact rfl)(hol:qR nx ob=true:=by exact rfl)(hN:nlt d N=true:=by exact rfl)(h2:apO nw' ob'=ς ob2:=by exact rfl):
 AWO P N ⟨ς d,.call ⟨.value (.func f),args.toArray,tys⟩,ty,ps,af,gd⟩ ⟨sl,ob,nx⟩ ⟨(d,out')::sl',ob2,nlN nw nx⟩:=cwu [] _ _ (FnV.up (i.h q) hd hu) ht ha rfl hm hs hb rfl hw ho hsl hol hN rfl h2
variable{ops:Array Oper}{l:List Oper}{K:St->Prop}
end
section
variable{P:Program}{N:Nat}{d:Tmp}{ty:TypeId}{ps:String}{af:Array Edge}{f:FuncId}{args:List Operand}{tys:Array TypeId}{sl:Lab}{ob:Laa}{nx:Nat}{st0 st1:St}{ops:Array Oper}{lz:List (Nat×Oper)}{dn seg dn':List Nat}{ys:List Inx}{base:St}{p:Nat}{K:St->Prop}{R:Prop}
end
abbrev FSt(α:Type):=α->Lab->Laa->Nat->St
structure HJ(k:Nat){α:Type}(F:FSt α):Prop
structure HC(k:Nat){α:Type}(F:FSt α):Prop
structure HB(k:Nat){α:Type}(F:FSt α):Prop
structure HL(k:Nat){α:Type}(F:FSt α):Prop
section
variable{P:Program}{N:Nat}{ops:Array Oper}{l:List Oper}{o:Oper}{sl:Lab}{ob:Laa}{nx:Nat}{K:St->Prop}{AQ:Exit->St->Prop}{α β:Type}{p:Option α}{f:α->Option β}{y:β}{F:FSt α}
theorem caF{d:Tmp}{ps:String}{af:Array Edge}{gd:Option (Nat×Bool)}{f:FuncId}{args:List Operand}{tys:Array TypeId}{ts:List T}{avs:List AV}{eqs:Lac}{p:Prop}(q:p)[i:FC P p f avs res](ht:pj sl args=ς ts:=by exact rfl)(hp:nM ob (BZ ts)=ς nob:=by exact rfl)(ha:uf nob ts=ς (avs,eqs):=by exact rfl)(he:Eqs eqs:=by repeat (first|exact θ|refine⟨by first|rfl|exact lm _|simp,?_⟩))(hi:xF nx res=ς (out,nw,n):=by exact rfl)(hw:As nx nw n=true:=by exact rfl)(hN:nlt d N=true:=by exact rfl)(hob:apO nw ob=ς ob':=by exact rfl):
 NS P N ⟨ς d,.call ⟨.value (.func f),args.toArray,tys⟩,ty,ps,af,gd⟩ ⟨sl,ob,nx⟩ ⟨(d,out)::sl,ob',n⟩ ⟨d,args.zip ts,nob,out,nw⟩:=ca ht hp ha (i.h q) he hi hw hN hob
theorem jr{d:Nat}(H:p.bind f=ς y)(hg:o.guard=ς (j,b))(hj:(ops[j]?).bind (·.dst)=ς d)(J:HJ d F)[c:C8 N K](w1:∀v,p=ς v->AWR P N ops (o::l) ⟨sl,ob,nx⟩ (λs=>cM N s (F v sl ob nx)))(w2:∀v,f v=ς y->K (F v sl ob nx)):AWR P N ops (o::l) ⟨sl,ob,nx⟩ K:=by
 obtain⟨v,h1,h2⟩:=Zw.1 H
 exact yb _ (w1 v h1) (w2 v h2)
theorem jd{ops':Array Oper}{is:List Inf}{mx d:Nat}(H:p.bind f=ς y)(hg:o.guard=ς (j,b))(hj:(ops[j]?).bind (·.dst)=ς d)(J:HJ d F)[c:C8 N K](w1:∀v,p=ς v->DR P N ops (o::l) is ⟨sl,ob,nx⟩ (λis t=>xB ops' is mx=ζ/\cM N t (F v sl ob nx)))(w2:∀v,f v=ς y->K (F v sl ob nx)):DR P N ops (o::l) is ⟨sl,ob,nx⟩ (λis t=>xB ops' is mx=ζ/\K t):=by
 obtain⟨v,h1,h2⟩:=Zw.1 H
 exact yl _ (w1 v h1) (w2 v h2)
theorem jz{lz:List (Nat×Oper)}{dn seg:List Nat}{ys:List Inx}{base:St}{d:Nat}(H:p.bind f=ς y)(hg:o.guard=ς (j,b))(hj:(ops[j]?).bind (·.dst)=ς d)(J:HJ d F)[c:C8 N K](w1:∀v,p=ς v->DZ P N ops ((q,o)::lz) dn seg ys base ⟨sl,ob,nx⟩ (λs=>cM N s (F v sl ob nx)))(w2:∀v,f v=ς y->K (F v sl ob nx)):DZ P N ops ((q,o)::lz) dn seg ys base ⟨sl,ob,nx⟩ K:=by
 obtain⟨v,h1,h2⟩:=Zw.1 H
 exact T2 _ (w1 v h1) (w2 v h2)
theorem jc{Y:Code}(H:p.bind f=ς y)(J:HC k F)[c:Clo N AQ](w1:∀v,p=ς v->AWC P N (.cond (.tmp k) X Y) ⟨sl,ob,nx⟩ (rH (λs=>cM N s (F v sl ob nx)) AQ))(w2:∀v,f v=ς y->AQ .normal (F v sl ob nx)):AWC P N (.cond (.tmp k) X Y) ⟨sl,ob,nx⟩ AQ:=by
 obtain⟨v,h1,h2⟩:=Zw.1 H
 exact km _ (w1 v h1) (w2 v h2)
theorem jb(H:p.bind f=ς y)(J:HB id F)[c:Clo N AQ](w1:∀v,p=ς v->AWC P N X ⟨sl,ob,nx⟩ (iY id (rH (λs=>cM N s (F v sl ob nx)) AQ)))(w2:∀v,f v=ς y->AQ .normal (F v sl ob nx)):AWC P N X ⟨sl,ob,nx⟩ (iY id AQ):=by
 obtain⟨v,h1,h2⟩:=Zw.1 H
 exact iX _ (w1 v h1) (w2 v h2)
theorem il{c:Code}{step:α->Option (cH α ρ)}{x0:α}(H:iter step n x0=ς r)(J:HL id F)(h0:cM N ⟨sl,ob,nx⟩ (F x0 sl ob nx))(round:∀x o,step x=ς o->AWC P N c (F x sl ob nx) (eN N (λx=>F x sl ob nx) r o (iY id AQ))):AWC P N (.loop c) ⟨sl,ob,nx⟩ (iY id AQ):=jy _ H h0 round
theorem are{σ:Type}{m:Option ρ}{o:cH σ ρ}{S:σ->St}(H:dn m=ς o)(w:m=ς r->AQ (.exit n) s):eN N S r o AQ (.exit n) s:=by
 obtain⟨r0,Hd,rfl⟩:=dnE H
 exact wQ λhq=>w (Hd.trans (congrArg ς hq))
theorem arr{σ:Type}{m:Option ρ}{o:cH σ ρ}{S:σ->St}(H:dn m=ς o)(w:m=ς r->AQ .ret s):eN N S r o AQ .ret s:=by
 obtain⟨r0,Hd,rfl⟩:=dnE H
 exact iq_r λhq=>w (Hd.trans (congrArg ς hq))
end
theorem zR{AQ:Exit->St->Prop}{ll:List Oper}{r:List (Nat×Oper)}(hr:R)(hm:P.follows .mixedOrders=true:=by exact Try.follows)(he:AG ll.toArray=true:=by kernel_rfl)(hc:Jp ll.length (v0 ll.length)=true:=by kernel_rfl)(ho:Cc ll (v0 ll.length)=ς r:=by exact rfl)(w:R->DZ P N ll.toArray r [] [] [] st st (λs=>AQ .normal s):=by exact wJ):AWC P N (.region id ll.toArray ζ) st AQ:=jT _ hm he hc ho (w hr)
theorem sgd{a b:α}(H:ς a=ς b)(k:G):G:=k
section
variable{P:Program}{N:Nat}{d:Tmp}{ty:TypeId}{ps:String}{af:Array Edge}{gd:Option (Nat×Bool)}{x y:Operand}{sl:Lab}{ob:Laa}{nx:Nat}{α:Type}{enc:α->List D}
theorem xdF{by_:Nat}{g':Bool}{kd:IntKind}{xs:List α}{a:α}(H:ix xs i=ς a)[dB P t e sz by_](hx:opT sl x= .v (.c (.d g (.l (xs.map enc)))):=by exact rfl)(hy:opT sl y= .v (.c (.d g' (.i kd i))):=by exact rfl)(hN:nlt d N=true:=by exact rfl)(henc:∀a,(enc a).length=sz:=by exact λ_=>rfl):
 NS0 P N ⟨ς d,.indexAddr t x y,ty,ps,af,gd⟩ sl ob nx d (.v (.c (.q g (enc a) 0))) ⟨d,[(x,.v (.c (.d g (.l (xs.map enc))))),(y,.v (.c (.d g' (.i kd i))))],[],.v (.c (.q g (enc a) 0)),[]⟩:=xdT H henc hx hy hN
theorem oeF{o:Nat}{rt:TypeId}{ys:List α}{a:α}{m:Bool}{c:C}[ic P t](hx:opT sl x= .v (.c (.e o sz i.toNat j)):=by exact rfl)(ho:go ob o=ς (.row rt sz (ys.map enc) g m):=by exact rfl)(hN:nlt d N=true:=by exact rfl)(H:ix ys i=ς a:=by assumption)(hc:ld1 g j (enc a)=ς c:=by exact rfl):
 NS0 P N ⟨ς d,.load t x,ty,ps,af,gd⟩ sl ob nx d (.v (.c c)) ⟨d,[(x,.v (.c (.e o sz i.toNat j)))],[(o,.row rt sz (ys.map enc) g m)],.v (.c c),[]⟩:=oe hx ho hN (js enc H) hc
theorem oeaF{o:Nat}{rt:TypeId}{ys:List α}{a:α}{m:Bool}[fU P t n](hx:opT sl x= .v (.c (.e o sz i.toNat j)):=by exact rfl)(ho:go ob o=ς (.row rt sz (ys.map enc) g m):=by exact rfl)(hN:nlt d N=true:=by exact rfl)(H:ix ys i=ς a:=by assumption)(hc:B2 g j n (enc a)=ς cs:=by exact rfl):
 NS0 P N ⟨ς d,.load t x,ty,ps,af,gd⟩ sl ob nx d (.v (.agg cs)) ⟨d,[(x,.v (.c (.e o sz i.toNat j)))],[(o,.row rt sz (ys.map enc) g m)],.v (.agg cs),[]⟩:=oea hx ho hN (js enc H) hc
end
theorem pE{β:Type}{G:α×β->Prop}(h:∀a b,G (a,b)):∀x,G x:=λ(a,b)=>h a b
theorem hJ(k:Nat)(F:FSt α):HJ k F:=⟨⟩
theorem hC(k:Nat)(F:FSt α):HC k F:=⟨⟩
theorem hB(k:Nat)(F:FSt α):HB k F:=⟨⟩
theorem hL(k:Nat)(F:FSt α):HL k F:=⟨⟩
theorem hb(d n:Nat):HJ d (λ(v:Bool) sl ob nx=>⟨(n,tB v)::(d,.any)::sl,ob,nx⟩):=⟨⟩
theorem hl(d n:Nat):HL d (λ(v:Int) sl ob nx=>⟨(n,tI v)::sl,ob,nx⟩):=⟨⟩
theorem hm(d n m:Nat):HL d (λ(v:Int×Int) sl ob nx=>⟨(n,tI v.1)::(m,tI v.2)::sl,ob,nx⟩):=⟨⟩
theorem he(d n m:Nat):HB d (λ(v:Int) sl ob nx=>⟨(n,tI v)::(m,.any)::sl,ob,nx⟩):=⟨⟩
theorem hc(d n:Nat):HC d (λ(v:Bool) sl ob nx=>⟨(n,tB v)::sl,ob,nx⟩):=⟨⟩
theorem hi(d n:Nat):HC d (λ(v:Int) sl ob nx=>⟨(n,tI v)::sl,ob,nx⟩):=⟨⟩
section
variable{P:Program}{N:Nat}{d:Tmp}{ty:TypeId}{ps:String}{af:Array Edge}{gd:Option (Nat×Bool)}{x y:Operand}{sl:Lab}{ob:Laa}{nx:Nat}{α:Type}{enc:α->List D}{ops:Array Oper}{lz:List (Nat×Oper)}{dn seg:List Nat}{ys:List Inx}{base:St}{p:Nat}{K:St->Prop}{R:Prop}{AQ:Exit->St->Prop}
theorem zS{o:Nat}{vt:TypeId}{ns:List C}{v:V}[ht:TyN P t n](hr:R)(hx:opT sl x= .v (.c (.p o k)):=by exact rfl)(hy:opT sl y= .v v:=by exact rfl)(ho:go ob o=ς (.var vt cs):=by exact rfl)(hv:vcs v=ς ns:=by exact rfl)(hn:f4 ns.length n=true:=by exact rfl)(hst:ns.all C.sto=true:=by exact rfl)(hs:qI k ns cs=ς cs':=by exact rfl)(hq:Yk N (100000+p)=true:=by exact rfl)(w:R->DZ P N ops lz dn (seg++[p]) (ys++[⟨⟨100000+p,[(x,.v (.c (.p o k))),(y,.v v)],[(o,.var vt cs)],.any,[]⟩,[(o,.var vt cs')],ξ⟩]) base ⟨(100000+p,.any)::sl,(o,.var vt cs')::ob,nx⟩ K:=by exact wJ):
 DZ P N ops ((p,⟨ξ,.store t x y,ty,ps,af,ξ⟩)::lz) dn seg ys base ⟨sl,ob,nx⟩ K:=wA (spx (100000+p) hq hx hy ho hv hn hst hs) hr rfl w
theorem iZs(h:DZ P N ops ((p,⟨ξ,.store t x y,ty,ps,af,ξ⟩)::lz) dn seg ys base st K):DZ P N ops ((p,⟨ξ,.store t x y,ty,ps,af,ξ⟩)::lz) dn seg ys base st K:=h
theorem awoW{o:Oper}{a b c:St}(h:AWO P N o a b)(k:cM N b c):AWO P N o a c:=λcx E ac w hR=>Oper.wp_mono (λ_ _ ⟨E',h'⟩=>k cx E' _ _ h') (h cx E ac w hR)
theorem cpF{by_ o:Nat}{ys zs:List α}{c:C}[dB P t e sz by_](hd:nlt d N=true:=by exact rfl)(hx:opT sl x= .v (.c (.w o n)):=by exact rfl)(ho:go ob o=ς (.row e sz (ys.map enc) g ζ):=by exact rfl)(hy:opT sl y= .v (.c c):=by exact rfl)(hs:Src ob c (zs.map enc) gy:=by first|exact .d|exact .nil|exact .w rfl (by first|rfl|exact lm _|simp)|exact .wn rfl (by first|rfl|exact lm _|simp))(henc:∀a,(enc a).length=sz:=by exact λ_=>rfl)(hn:ys.length=n:=by first|rfl|simp)(hg:(g&&gy)=gg:=by exact rfl):
 AWO P N ⟨ς d,.call ⟨.builtin .copy,#[x,y],#[t,t]⟩,ty,ps,af,gd⟩ ⟨sl,ob,nx⟩ ⟨(d,.any)::sl,(o,.row e sz ((cpL ys zs).map enc) gg ζ)::ob,nx⟩:=cpT rfl henc hn hs hd hx hy ho hg
theorem cpFf{by_ o:Nat}{ys zs:List α}{c:C}[dB P t e sz by_](hd:nlt d N=true:=by exact rfl)(hx:opT sl x= .v (.c (.w o n)):=by exact rfl)(ho:go ob o=ς (.row e sz (ys.map enc) g ζ):=by exact rfl)(hy:opT sl y= .v (.c c):=by exact rfl)(hs:Src ob c (zs.map enc) gy:=by first|exact .d|exact .nil|exact .w rfl (by first|rfl|exact lm _|simp)|exact .wn rfl (by first|rfl|exact lm _|simp))(henc:∀a,(enc a).length=sz:=by exact λ_=>rfl)(hf:∀a,qO (enc a)=true:=by exact λ_=>rfl)(hn:ys.length=n:=by first|rfl|simp):
 AWO P N ⟨ς d,.call ⟨.builtin .copy,#[x,y],#[t,t]⟩,ty,ps,af,gd⟩ ⟨sl,ob,nx⟩ ⟨(d,.any)::sl,(o,.row e sz ((cpL ys zs).map enc) ζ ζ)::(o,.row e sz ((cpL ys zs).map enc) (g&&gy) ζ)::ob,nx⟩:=awoW (cpT rfl henc hn hs hd hx hy ho rfl) (wL (b9 _ _ _) hf)
class ElT(P:Program)(e:TypeId)(α:outParam Type)(enc:outParam (α->List D))(za:outParam α):Prop
theorem mkF{by_:Nat}{zd:List D}{g':Bool}{k k':IntKind}{n c:Int}{za:α}(H:u6 by_ n c=ζ)[dB P t e sz by_][ElT P e α enc za][TyE P e zd](hz:enc za=zd:=by exact rfl)(hx:opT sl x= .v (.c (.d g (.i k n))):=by exact rfl)(hy:opT sl y= .v (.c (.d g' (.i k' c))):=by exact rfl)(hN:nlt d N=true:=by exact rfl)(hq:nxt nx=ς nx':=by exact rfl):
 NS1 P N ⟨ς d,.makeSlice t x y,ty,ps,af,gd⟩ sl ob nx nx' d (.v (.c (.w nx (Yo n.toNat za).length))) (.row e sz ((Yo n.toNat za).map enc) ζ ζ) ⟨d,[(x,.v (.c (.d g (.i k n)))),(y,.v (.c (.d g' (.i k' c))))],[],.v (.c (.w nx (Yo n.toNat za).length)),[(nx,.row e sz ((Yo n.toNat za).map enc) ζ ζ)]⟩:=mkT H hz hx hy hN hq
theorem cdhF{t by_:Nat}{g2:Bool}{xs:List α}{hi:Operand}(H:fa xs 0 h=ζ)[ht:dB P t e sz by_](hx:opT sl x= .v (.c (.d g (.l (xs.map enc)))):=by exact rfl)(hh:opT sl hi= .v (.c (.d g2 (.i .i64 h))):=by exact rfl)(hN:nlt d N=true:=by exact rfl)(henc:∀a,(enc a).length=sz:=by exact λ_=>rfl):
 NS0 P N ⟨ς d,.slice t x ξ (ς hi) ξ,ty,ps,af,gd⟩ sl ob nx d (.v (.c (.d g (.l ((xs.take h.toNat).map enc))))) ⟨d,[(x,.v (.c (.d g (.l (xs.map enc))))),(hi,.v (.c (.d g2 (.i .i64 h))))],[],.v (.c (.d g (.l ((xs.take h.toNat).map enc)))),[]⟩:=cdhT H henc hx hh hN
theorem cdlF{t by_:Nat}{g2:Bool}{xs:List α}{l:Int}{lo:Operand}(H:fa xs l xs.length=ζ)[ht:dB P t e sz by_](hx:opT sl x= .v (.c (.d g (.l (xs.map enc)))):=by exact rfl)(hl:opT sl lo= .v (.c (.d g2 (.i .i64 l))):=by exact rfl)(hN:nlt d N=true:=by exact rfl)(henc:∀a,(enc a).length=sz:=by exact λ_=>rfl):
 NS0 P N ⟨ς d,.slice t x (ς lo) ξ ξ,ty,ps,af,gd⟩ sl ob nx d (.v (.c (.d g (.l ((xs.drop l.toNat).map enc))))) ⟨d,[(x,.v (.c (.d g (.l (xs.map enc))))),(lo,.v (.c (.d g2 (.i .i64 l))))],[],.v (.c (.d g (.l ((xs.drop l.toNat).map enc)))),[]⟩:=Pn H henc hx hl hN
structure HZ(k:Nat):Prop
theorem hz(k:Nat):HZ k:=⟨⟩
theorem iHZ{c:Array Oper}(J:HZ id)(h:AWC P N (.region id c ζ) st AQ):AWC P N (.region id c ζ) st AQ:=h
theorem aq{x:Option α}{r:α}(H:(bif b then x else ξ)=ς r)(k:b=ζ->x=ς r->G):G:=k (rq H).1 (rq H).2
end
section
variable{P:Program}{N:Nat}{ops:Array Oper}{l:List Oper}{o:Oper}{st:St}{K:St->Prop}{AQ:Exit->St->Prop}{is:List Inf}{KK:List Inf->St->Prop}{lz:List (Nat×Oper)}{dn seg:List Nat}{ys:List Inx}{base:St}{q j d:Nat}{b:Bool}{G:Prop}
theorem iR(h:AWR P N ops (o::l) st K):AWR P N ops (o::l) st K:=h
theorem iD(h:DR P N ops (o::l) is st KK):DR P N ops (o::l) is st KK:=h
theorem iZ(h:DZ P N ops ((q,o)::lz) dn seg ys base st K):DZ P N ops ((q,o)::lz) dn seg ys base st K:=h
theorem rU(hg:o.guard=ς (j,b))(h:AWR P N ops (o::l) st K):AWR P N ops (o::l) st K:=h
theorem dU(hg:o.guard=ς (j,b))(h:DR P N ops (o::l) is st KK):DR P N ops (o::l) is st KK:=h
theorem zU(hg:o.guard=ς (j,b))(h:DZ P N ops ((q,o)::lz) dn seg ys base st K):DZ P N ops ((q,o)::lz) dn seg ys base st K:=h
section
variable{dd:Option Tmp}{cl:Call}{ty t1:TypeId}{x1 x2:Operand}{ps:String}{af:Array Edge}{gd:Option (Nat×Bool)}
end
theorem cL{c:Code}(h:AWC P N (.loop c) st AQ):AWC P N (.loop c) st AQ:=h
theorem cK{c:Operand}{Y:Code}(h:AWC P N (.cond c X Y) st AQ):AWC P N (.cond c X Y) st AQ:=h
theorem cR{a:Nat}{c:Array Oper}(h:AWC P N (.region a c ζ) st AQ):AWC P N (.region a c ζ) st AQ:=h
theorem iW(h:cM N st s):cM N st s:=h
theorem iP(h:th N P rs res .ret st):th N P rs res .ret st:=h
theorem iE(h:th N P rs res .normal st):th N P rs res .normal st:=h
end
inductive Pl where
 |s (k:Nat)
 |a (k j:Nat)
 |v (o j:Nat)
inductive Fx where
 |fz (o:Nat)
 |fn (o:Nat)
 |tn (o:Nat)
 |sw (p q:Nat)
 |rn (p q:Nat)
 |cs (p:Pl)
 |nn (p:Pl) (t z:Nat) (g:Bool)
 |ls (p:Pl)
 |gf (o:Nat)
def rgN(tob:Laa)(q:Nat)(p:Pl):Fx:=match go tob q with
 |some (.rown t z _ g)=>.nn p t z g
 |_=>.nn p 0 0 ζ
def fxW(ob:Laa)(o:Nat)(pl:Pl):Option Fx:=bif rsv o then ξ else match go ob o with
 |some (.row _ _ _ _ ζ)=>ς (.fz o)
 |_=>ς (.cs pl)
def fxL(p q:Nat):Option Fx:=bif f4 p q then ξ else ς (bif rsv p then .rn p q else .sw q p)
def fxC(ob tob:Laa)(pl:Pl):C->C->Option Fx
 | .d _ (.l _),b=>match b with
  | .w o _=>fxW ob o pl
  | .wn o _=>bif rsv o then ξ else ς (.fn o)
  | .nil=>ς (.ls pl)
  |_=>ξ
 | .wn q _,b=>match b with
  | .w o _=>ς (.tn o)
  | .wn o _=>fxL q o
  | .nil=>ς (rgN tob q pl)
  |_=>ξ
 | .w q _,b=>match b with
  | .w o _=>fxL q o
  |_=>ξ
 | .p q _,b=>match b with
  | .p o _=>bif rsv q||rsv o then ξ else fxL q o
  |_=>ξ
 |_,_=>ξ
def fxs(f:Nat->C->C->Option Fx):Nat->List C->List C->Option Fx
 |j,a::as,b::bs=>match f j a b with
  |some x=>ς x
  |none=>fxs f (j+1) as bs
 |_,_,_=>ξ
def fxS(ob tob:Laa)(sl:Lab):Lab->Option Fx
 |[]=>ξ
 |(k,t)::r=>match(match t,gt sl k with
  | .v (.c a),.v (.c b)=>fxC ob tob (.s k) a b
  | .v (.agg as),.v (.agg bs)=>fxs (λj=>fxC ob tob (.a k j)) 0 as bs
  |_,_=>ξ) with
  |some x=>ς x
  |none=>fxS ob tob sl r
def fxO(ob tob:Laa):Laa->Option Fx
 |[]=>ξ
 |(o,y)::r=>match(match y,go ob o with
  | .var _ as,ς (.var _ bs)=>fxs (λj=>fxC ob tob (.v o j)) 0 as bs
  | .row _ _ _ η ζ,ς (.row _ _ _ ζ ζ)=>ς (.gf o)
  |_,_=>ξ) with
  |some x=>ς x
  |none=>fxO ob tob r
def fx(sl:Lab)(ob:Laa)(tsl:Lab)(tob:Laa):Option Fx:=match fxS ob tob sl tsl with
 |some x=>ς x
 |none=>fxO ob tob tob
def app(sl:Lab)(ob:Laa)(nx:Nat):Fx->Option (St×Lac)
 | .fz o=>match go ob o,rsv o with
  |some (.row t z e g ζ),η=>ς (⟨sl,(o,.row t z e g η)::ob,nx⟩,[])
  |_,_=>ξ
 | .cs p=>match p with
  | .v o _=>match go ob o with
   |some (.var t cs)=>match Jv ob cs with
    |some (cs',e)=>ς (⟨sl,(o,.var t cs')::ob,nx⟩,e)
    |none=>ξ
   |_=>ξ
  | .s k| .a k _=>match vfz ob (gt sl k) with
   |some (t',e)=>ς (⟨(k,t')::sl,ob,nx⟩,e)
   |none=>ξ
 | .fn o=>match go ob o,rsv o with
  |some (.rown t z e g),η=>match Nj o (.l e) g e.length sl,uA o (.l e) g e.length ob with
   |some (sl',e1),ς (ob',e2)=>ς (⟨sl',ob',nx⟩,e1++e2)
   |_,_=>ξ
  |_,_=>ξ
 | .tn o=>match go ob o with
  |some (.row _ _ _ _ ζ)=>match tH (IX o) sl,sD (IX o) (OC o) ob with
   |some sl',ς ob'=>ς (⟨sl',ob',nx⟩,[])
   |_,_=>ξ
  |_=>ξ
 | .sw p q=>bif rsv p||rsv q||!(nlt p nx&&nlt q nx) then ξ else ς (⟨swS p q sl,swO p q ob,nx⟩,[])
 | .rn p q=>bif rsp p||rsv q||f4 p q||!nlt p nx then ξ else match tH (Au p q) sl,zQ p q ob with
  |some sl',ς ob'=>ς (⟨sl',ob',nx⟩,[])
  |_,_=>ξ
 | .nn p t z g=>bif wY nx sl&&qR nx ob then match nxt nx with
  |some n=>match p with
   | .s k=>match gt sl k with
    | .v (.c .nil)=>ς (⟨(k,.v (.c (.wn nx 0)))::sl,(nx,.rown t z [] g)::ob,n⟩,[])
    |_=>ξ
   | .a k j=>match gt sl k with
    | .v (.agg cs)=>match Ay j (.wn nx 0) cs with
     |some cs'=>ς (⟨(k,.v (.agg cs'))::sl,(nx,.rown t z [] g)::ob,n⟩,[])
     |none=>ξ
    |_=>ξ
   | .v o j=>match go ob o with
    |some (.var vt cs)=>match Ay j (.wn nx 0) cs with
     |some cs'=>ς (⟨sl,(o,.var vt cs')::(nx,.rown t z [] g)::ob,n⟩,[])
     |none=>ξ
    |_=>ξ
  |none=>ξ
  else ξ
 | .ls p=>match p with
  | .s k=>ς (⟨(k,nlT (gt sl k))::sl,ob,nx⟩,[])
  | .a k j=>match gt sl k with
   | .v (.agg cs)=>match Ay j (.d ζ (.l [])) cs with
    |some cs'=>ς (⟨(k,.v (.agg cs'))::sl,ob,nx⟩,[])
    |none=>ξ
   |_=>ξ
  | .v o j=>match go ob o with
   |some (.var t cs)=>match Ay j (.d ζ (.l [])) cs with
    |some cs'=>ς (⟨sl,(o,.var t cs')::ob,nx⟩,[])
    |none=>ξ
   |_=>ξ
 | .gf o=>match go ob o with
  |some (.row t z e ζ ζ)=>ς (⟨sl,(o,.row t z e η ζ)::ob,nx⟩,[])
  |_=>ξ
theorem tj{ob:Laa}{x:Fx}{e:Lac}(h:app sl ob nx x=ς (st,e))(he:Eqs e):cM N ⟨sl,ob,nx⟩ st:=by
 cases x with
 |fz o=>
  simp only[app] at h
  split at h
  .rename_i h1 h2;cases h;exact eG h1 h2
  cases h
 |cs p=>
  cases p with
  |v o j=>
   simp only[app] at h
   split at h
   .rename_i h1
    split at h
    .rename_i h2;cases h;exact fP h1 h2 he
    cases h
   cases h
  |s k=>
   simp only[app] at h
   split at h
   .rename_i h2;cases h;exact fc rfl h2 he
   cases h
  |a k j=>
   simp only[app] at h
   split at h
   .rename_i h2;cases h;exact fc rfl h2 he
   cases h
 |fn o=>
  simp only[app] at h
  split at h
  .rename_i h1 h2
   split at h
   .rename_i h3 h4;cases h
    obtain⟨k1,k2⟩:=dO he
    exact gm o h2 h1 h3 h4 k1 k2
   cases h
  cases h
 |tn o=>
  simp only[app] at h
  split at h
  .rename_i h1
   split at h
   .rename_i h3 h4;cases h;exact fE o h1 h3 h4
   cases h
  cases h
 |sw p q=>
  simp only[app] at h
  cases hp:rsv p<;>cases hq:rsv q<;>cases h1:nlt p nx<;>cases h2:nlt q nx<;>simp only[hp,hq,h1,h2,ZL,ZE,Zv,ZQ,Ze,ZK,cond_true,cond_false] at h<;>first|(cases h;exact vS hp hq h1 h2)|cases h
 |rn p q=>
  simp only[app] at h
  cases hp:rsp p<;>cases hq:rsv q<;>cases h1:f4 p q<;>cases h2:nlt p nx<;>simp only[hp,hq,h1,h2,ZL,ZE,Ze,ZK,cond_true,cond_false] at h<;>try cases h
  split at h
  .rename_i h3 h4;cases h;exact I5 p q hp hq h1 h2 h3 h4
  cases h
 |nn p t z g=>
  simp only[app] at h
  cases hs:wY nx sl<;>cases hb:qR nx ob<;>simp only[hs,hb,Zv,ZQ,cond_true,cond_false] at h<;>try cases h
  split at h
  .rename_i hq
   cases p with
   |s k=>
    simp only at h
    split at h
    .rename_i hk;cases h;exact Tc t z g hk hs hb hq
    cases h
   |a k j=>
    simp only at h
    split at h
    .rename_i hk
     split at h
     .rename_i hj;cases h;exact Tb t z g hk hj hs hb hq
     cases h
    cases h
   |v o j=>
    simp only at h
    split at h
    .rename_i hk
     split at h
     .rename_i hj;cases h;exact eo t z g hk hj hs hb hq
     cases h
    cases h
  cases h
 |ls p=>
  cases p with
  |s k=>simp only[app] at h;cases h;exact Ta rfl
  |v o j=>
   simp only[app] at h
   split at h
   .rename_i h1
    split at h
    .rename_i h2;cases h;exact eL h1 h2
    cases h
   cases h
  |a k j=>
   simp only[app] at h
   split at h
   .rename_i h1
    split at h
    .rename_i h2;cases h;exact OG h1 h2
    cases h
   cases h
 |gf o=>
  simp only[app] at h
  split at h
  .rename_i h1;cases h;exact X4 h1
  cases h
theorem fxF{ob:Laa}{x:Fx}{M:St}{e:Lac}(h:fx sl ob (fS [] M.sl) (fO [] M.ob)=ς x)(ha:app sl ob nx x=ς (st,e))(he:Eqs e)(w:cM N st M):cM N ⟨sl,ob,nx⟩ M:=aJ (tj ha he) w
theorem fxU{ob:Laa}{M:St}(h:Yk nx M.nx=ζ)(w:cM N ⟨sl,ob,M.nx⟩ M):cM N ⟨sl,ob,nx⟩ M:=aJ (wM h) w
def CsE:List C->List C->Prop
 |[],[]=>True
 |a::as,b::bs=>a=b/\CsE as bs
 |_,_=>False
theorem Jg:∀{as bs:List C},CsE as bs->as=bs
 |[],[],_=>rfl
 |_::_,_::_,h=>by rw[h.1,Jg h.2]
 |[],_::_,h=>h.elim
 |_::_,[],h=>h.elim
theorem vE{ob:Laa}{o t:Nat}(h:go ob o=ς (.var t cs))(e:CsE cs cs'):go ob o=ς (.var t cs'):=Jg e▸h
theorem aE'(h:gt sl k= .v (.agg cs))(e:CsE cs cs'):gt sl k= .v (.agg cs'):=Jg e▸h
def wnL:Lac->Lab->Laa->Option (Lab×Laa×Lac)
 |[],sl,ob=>ς (sl,ob,[])
 |(o,n)::r,sl,ob=>match vT o n sl,Du o n ob with
  |some sl',ς ob'=>match wnL r sl' ob' with
   |some (a,b,e)=>ς (a,b,(KI o n sl++I7 o n ob)++e)
   |none=>ξ
  |_,_=>ξ
theorem zl{N nx:Nat}:∀{L:Lac} {sl sl':Lab} {ob ob':Laa} {e:Lac},wnL L sl ob=ς (sl',ob',e)->Eqs e->cM N ⟨sl,ob,nx⟩ ⟨sl',ob',nx⟩
 |[],sl,sl',ob,ob',e,h,he=>by cases h;exact kU _
 |(o,n)::r,sl,sl',ob,ob',e,h,he=>by
  simp only[wnL] at h
  split at h
  .rename_i h1 h2
   split at h
   .rename_i h3;cases h
    obtain⟨k1,k2⟩:=dO he
    obtain⟨k3,k4⟩:=dO k1
    exact aJ (gx h1 h2 k3 k4) (zl h3 k2)
   cases h
  cases h
def VM:T->List V
 | .v v=>[v]
 | .tup vs=>vs
 | .any=>[]
def vCs:V->List C
 | .c c=>[c]
 | .agg cs=>cs
def tgR(sl:Lab)(ob:Laa):Nat->List ResultVar->List V->Option (Lab×Laa)
 |_,[],[]=>ς ([],[])
 |n,.tmp k::rs,v::vs=>match tgR sl ob n rs vs with
  |some (a,b)=>ς ((k,.v v)::a,b)
  |none=>ξ
 |n,.cell p _::rs,v::vs=>match gt sl p with
  | .v (.c (.p o _))=>match go ob o,tgR sl ob (n+1) rs vs with
   |some (.var t _),ς (a,b)=>ς ((p,.v (.c (.p n 0)))::a,(n,.var t (vCs v))::b)
   |_,_=>ξ
  |_=>ξ
 |_,_,_=>ξ
theorem fvR{ys:Laa}{vs:List V}{tsl:Lab}{ob tob:Laa}(ho:VM out=vs)(hm:tgR sl ob 250 rs vs=ς (tsl,tob))(h0:JX vs=out)(w:cM N ⟨sl,ob,nx⟩ ⟨tsl,ys++(nw++tob),300⟩)(hr:ki P ⟨tsl,ys++(nw++tob),300⟩ rs vs)(hy:LoA (ys++(nw++tob)) ys)(hn:LoA (ys++(nw++tob)) nw):md N P rs ys out nw .ret ⟨sl,ob,nx⟩:=⟨_,vs,w,hr,h0,hy,hn⟩
theorem fvE{ys:Laa}{vs:List V}{tsl:Lab}{ob tob:Laa}(ho:VM out=vs)(hm:tgR sl ob 250 rs vs=ς (tsl,tob))(h0:JX vs=out)(w:cM N ⟨sl,ob,nx⟩ ⟨tsl,ys++(nw++tob),300⟩)(hr:ki P ⟨tsl,ys++(nw++tob),300⟩ rs vs)(hy:LoA (ys++(nw++tob)) ys)(hn:LoA (ys++(nw++tob)) nw):md N P rs ys out nw .normal ⟨sl,ob,nx⟩:=⟨_,vs,w,hr,h0,hy,hn⟩
def mkI:List T->List T->Lac
 | .v (.c a)::as,.v (.c b)::bs=>match a,b with
  | .p a _,.p b _=>(a,b)::mkI as bs
  | .w a _,.w b _=>(a,b)::mkI as bs
  |_,_=>mkI as bs
 |_::as,_::bs=>mkI as bs
 |_,_=>[]
def labW:C->Option Nat
 | .w o _=>ς o
 | .wn o _=>ς o
 |_=>ξ
def zpW:List C->List C->Lac
 |a::as,b::bs=>match labW a,labW b with
  |some a,ς b=>(a,b)::zpW as bs
  |_,_=>zpW as bs
 |_,_=>[]
def mkJ(xs ob:Laa):Lac->Lac
 |[]=>[]
 |(a,b)::r=>match go xs a,go ob b with
  |some (.var _ cs),ς (.var _ ds)=>(a,b)::(zpW cs ds++mkJ xs ob r)
  |_,_=>(a,b)::mkJ xs ob r
def ordM(m:Lac):Laa->Option Lac
 |[]=>ς []
 |(l,_)::r=>match dJ m l,ordM m r with
  |some o,ς q=>ς ((l,o)::q)
  |_,_=>ξ
def mkM(xs ob:Laa)(as ts:List T):Option Lac:=ordM (mkJ xs ob (mkI as ts)) xs
def tnV(ob:Laa)(b:Nat):Nat->List C->List C->Option Fx
 |j,.d _ (.l _)::as,.w o _::bs=>match fxW ob o (.v b j) with
  |some x=>ς x
  |none=>tnV ob b (j+1) as bs
 |j,_::as,_::bs=>tnV ob b (j+1) as bs
 |_,_,_=>ξ
def tnL(xs ob:Laa):Lac->Option Fx
 |[]=>ξ
 |(a,b)::r=>match(match go xs a,go ob b with
  |some (.rown _ _ _ _),ς (.row _ _ _ _ ζ)=>ς (Fx.tn b)
  |some (.var _ cs),ς (.var _ ds)=>tnV ob b 0 cs ds
  |_,_=>ξ) with
  |some x=>ς x
  |none=>tnL xs ob r
def lnC(m:Lac):List C->Lac
 |[]=>[]
 | .w a n::cs| .wn a n::cs=>match dJ m a with
  |some b=>(b,n)::lnC m cs
  |none=>lnC m cs
 |_::cs=>lnC m cs
def lnX(m:Lac):Laa->Lac
 |[]=>[]
 |(_,.var _ cs)::r=>lnC m cs++lnX m r
 |_::r=>lnX m r
section
variable{P:Program}{N:Nat}{d:Tmp}{ty:TypeId}{ps:String}{af:Array Edge}{gd:Option (Nat×Bool)}{f:FuncId}{args:List Operand}{tys:Array TypeId}{sl sl':Lab}{ob ob' ob1 ob2:Laa}{nx:Nat}{ts ts':List T}{xs ys ys' nw nw':Laa}{out out':T}{p:Prop}{m e:Lac}
variable{ops:Array Oper}{l:List Oper}{K:St->Prop}{x:Fx}{st st0:St}
theorem cvN(q:p)[i:FCV P p f xs ts' ys out nw](ht:pj sl args=ς ts)(hM:mkM xs ob ts' ts=ς m)(h:tnL xs ob m=ς x)(ha:app sl ob nx x=ς (st,e))(he:Eqs e)(w:AWR P N ops (⟨ς d,.call ⟨.value (.func f),args.toArray,tys⟩,ty,ps,af,gd⟩::l) st K):AWR P N ops (⟨ς d,.call ⟨.value (.func f),args.toArray,tys⟩,ty,ps,af,gd⟩::l) ⟨sl,ob,nx⟩ K:=eC (tj ha he) w
variable{α:Type}{enc:α->List D}{us:List α}{j:Int}{a:α}{y z:Operand}{t1:TypeId}{o n e sz:Nat}{g:Bool}
end
theorem wg{st':St}(h1:LeS st.sl st'.nx (fS [] st'.sl):=by repeat (first|exact θ|refine⟨rfl,rfl,?_⟩|refine⟨wn rfl (by first|rfl|simp),rfl,?_⟩|refine⟨wnn rfl (by first|rfl|simp),rfl,?_⟩|refine⟨aE' rfl (by repeat (first|exact θ|refine⟨rfl,?_⟩|refine⟨congrArg (C.w _) (by simp),?_⟩|refine⟨congrArg (C.wn _) (by simp),?_⟩)),rfl,?_⟩))(h2:LeO st.ob st'.nx (fO [] st'.ob):=by repeat (first|exact θ|refine⟨rfl,⟨rfl,rfl⟩,?_⟩|refine⟨vE rfl (by repeat (first|exact θ|refine⟨rfl,?_⟩|refine⟨congrArg (C.w _) (by simp),?_⟩|refine⟨congrArg (C.wn _) (by simp),?_⟩)),⟨rfl,rfl⟩,?_⟩)):cM N st st':=SZ (cq h1 h2)
def MY(ys:List α)(i:Nat)(a:α):List α:=ys.set i a
structure Tag{α:Type}(ys:List α)(i:Nat):Prop where
theorem Tag.eq{ys:List α}{i:Nat}(t:Tag ys i)(a:α):ys.set i a=MY ys i a:=rfl
section
variable{P:Program}{N:Nat}{ty t:TypeId}{ps:String}{af:Array Edge}{gd:Option (Nat×Bool)}{x y:Operand}{sl:Lab}{ob:Laa}{nx:Nat}{α:Type}{enc:α->List D}{ops:Array Oper}{l:List Oper}{K:St->Prop}
theorem rSt(h:AWR P N ops (⟨ξ,.store t x y,ty,ps,af,gd⟩::l) st K):AWR P N ops (⟨ξ,.store t x y,ty,ps,af,gd⟩::l) st K:=h
theorem rSo{o:Nat}{rt:TypeId}{ys:List α}{a:α}(hx:opT sl x= .v (.c (.e o sz i.toNat j)))(ho:go ob o=ς (.row rt sz (ys.map enc) g ζ))(H:ix ys i=ς a)(w:Tag ys i.toNat->AWR P N ops (⟨ξ,.store t x y,ty,ps,af,gd⟩::l) ⟨sl,ob,nx⟩ K):AWR P N ops (⟨ξ,.store t x y,ty,ps,af,gd⟩::l) ⟨sl,ob,nx⟩ K:=w ⟨⟩
theorem soM{o:Nat}{rt:TypeId}{ys v:List α}{a a':α}{ns:List D}{g':Bool}{u:V}[TyN P t n](e:MY ys i.toNat a'=v)(H:ix ys i=ς a:=by assumption)(hx:opT sl x= .v (.c (.e o sz i.toNat j)):=by exact rfl)(hy:opT sl y= .v u:=by exact rfl)(ho:go ob o=ς (.row rt sz (ys.map enc) g ζ):=by exact rfl)(hv:vD u=ς (ns,g'):=by exact rfl)(hn:f4 ns.length n=true:=by exact rfl)(hs:qI j ns (enc a)=ς (enc a'):=by exact rfl)(hg:(g&&g')=gg:=by exact rfl):
 AWO P N ⟨ξ,.store t x y,ty,ps,af,gd⟩ ⟨sl,ob,nx⟩ ⟨sl,(o,.row rt sz ((ys.set i.toNat a').map enc) gg ζ)::ob,nx⟩:=soT H hx hy ho hv hn hs hg
variable{d:Tmp}
theorem oenF{o:Nat}{rt:TypeId}{ys:List α}{a:α}{c:C}[ic P t](hx:opT sl x= .v (.c (.e o sz i.toNat j)):=by exact rfl)(ho:go ob o=ς (.rown rt sz (ys.map enc) g):=by exact rfl)(hN:nlt d N=true:=by exact rfl)(H:ix ys i=ς a:=by assumption)(hc:ld1 g j (enc a)=ς c:=by exact rfl):
 NS0 P N ⟨ς d,.load t x,ty,ps,af,gd⟩ sl ob nx d (.v (.c c)) ⟨d,[(x,.v (.c (.e o sz i.toNat j)))],[(o,.rown rt sz (ys.map enc) g)],.v (.c c),[]⟩:=oen hx ho hN (js enc H) hc
theorem oeanF{o:Nat}{rt:TypeId}{ys:List α}{a:α}[fU P t n](hx:opT sl x= .v (.c (.e o sz i.toNat j)):=by exact rfl)(ho:go ob o=ς (.rown rt sz (ys.map enc) g):=by exact rfl)(hN:nlt d N=true:=by exact rfl)(H:ix ys i=ς a:=by assumption)(hc:B2 g j n (enc a)=ς cs:=by exact rfl):
 NS0 P N ⟨ς d,.load t x,ty,ps,af,gd⟩ sl ob nx d (.v (.agg cs)) ⟨d,[(x,.v (.c (.e o sz i.toNat j)))],[(o,.rown rt sz (ys.map enc) g)],.v (.agg cs),[]⟩:=WU hx ho hN (js enc H) hc
end
section
variable{P:Program}{N:Nat}{rs:List ResultVar}{ys nw:Laa}{out:T}{st:St}
theorem iPv(h:md N P rs ys out nw .ret st):md N P rs ys out nw .ret st:=h
theorem iEv(h:md N P rs ys out nw .normal st):md N P rs ys out nw .normal st:=h
end
class FCW(P:Program)(p:Prop)(f:outParam FuncId)(x:outParam Ob)(as:outParam (List T))(y:outParam Ob)(res:outParam (List RV)):Prop where
 h:p->FnW P f x as y res
def UB:List T->List T->Option Nat
 | .v (.c (.p a _))::as,.v (.c (.p b _))::bs=>bif f4 a 200 then ς b else UB as bs
 |_::as,_::bs=>UB as bs
 |_,_=>ξ
section
variable{P:Program}{N:Nat}{d:Tmp}{ty:TypeId}{ps:String}{af:Array Edge}{gd:Option (Nat×Bool)}{f:FuncId}{args:List Operand}{tys:Array TypeId}{sl:Lab}{ob ob':Laa}{nx o:Nat}{x0 x1 y:Ob}{ts ts':List T}{eqs:Lac}{res:List RV}{out:T}{nw:Laa}{n:Nat}{p:Prop}
theorem cwF(q:p)[i:FCW P p f x1 ts' y res](ht:pj sl args=ς ts:=by exact rfl)(h2:UB ts' ts=ς o:=by exact rfl)(ho:go ob o=ς x0:=by exact rfl)(hl:x0.loc=x1:=by exact rfl)(hfx:x0.free=true:=by exact rfl)(hfy:y.free=true:=by exact rfl)(ha:xc [] o ts=ς (ts',eqs):=by exact rfl)(he:Eqs eqs:=by repeat (first|exact θ|refine⟨by first|rfl|exact lm _|simp,?_⟩))(hi:xF nx res=ς (out,nw,n):=by exact rfl)(hw:As nx nw n=true:=by exact rfl)(hN:nlt d N=true:=by exact rfl)(hob:apO nw ((o,y)::ob)=ς ob':=by exact rfl):
 AWO P N ⟨ς d,.call ⟨.value (.func f),args.toArray,tys⟩,ty,ps,af,gd⟩ ⟨sl,ob,nx⟩ ⟨(d,out)::sl,ob',n⟩:=cw (i.h q) ht ho hl hfx hfy ha he hi hw hN hob
theorem cwX(q:p)[i:FCW P p f x1 ts' y res](ht:pj sl args=ς ts:=by exact rfl)(h2:UB ts' ts=ς o:=by exact rfl)(ho:go ob o=ς x0:=by exact rfl)(hl:x0.loc=x1:=by exact rfl)(hfx:x0.free=true:=by exact rfl)(hfy:y.free=true:=by exact rfl)(ha:xc [] o ts=ς (ts',eqs):=by exact rfl)(he:Eqs eqs:=by repeat (first|exact θ|refine⟨by first|rfl|exact lm _|simp,?_⟩))(hi:xF nx res=ς (out,nw,n):=by exact rfl)(hw:As nx nw n=true:=by exact rfl)(hN:nlt d N=true:=by exact rfl)(hob:apO nw ((o,y)::ob)=ς ob':=by exact rfl):
 NX P N ⟨ς d,.call ⟨.value (.func f),args.toArray,tys⟩,ty,ps,af,gd⟩ ⟨sl,ob,nx⟩ ⟨(d,out)::sl,ob',n⟩ ⟨⟨d,args.zip ts,[(o,x0)],out,nw⟩,[(o,y)],ξ⟩:=cwx (i.h q) ht ho hl hfx hfy ha he hi hw hN hob
end
section
variable{N:Nat}{P:Program}{rs:List ResultVar}{res:List RV}{e:Exit}{y:Ob}{sl:Lab}{ob:Laa}{nx o k:Nat}{st:St}
theorem iPw(h:pL N P rs res y .ret st):pL N P rs res y .ret st:=h
theorem iEw(h:pL N P rs res y .normal st):pL N P rs res y .normal st:=h
end
def prS:List Nat->Lab->Option Lab
 |_,[]=>ς []
 |ks,(k,t)::r=>match iH ks k||T.isAny t with
  |true=>prS (k::ks) r
  |false=>match prS (k::ks) r with
   |some r'=>ς ((k,t)::r')
   |none=>ξ
def prO:List Nat->Laa->Option Laa
 |_,[]=>ς []
 |ks,(k,x)::r=>match iH ks k with
  |true=>prO ks r
  |false=>match prO (k::ks) r with
   |some r'=>ς ((k,x)::r')
   |none=>ξ
theorem zK{ks:List Nat}:iH (j::ks) k=(f4 j k||iH ks k):=by
 by_cases h:j=k<;>simp_all [iH,jo]
theorem J2{k:Nat}:∀{sl sl':Lab} {ks:List Nat},prS ks sl=ς sl'->gt sl' k=bif iH ks k then .any else gt sl k
 |[],sl',ks,h=>by cases h;simp[gt]
 |(j,t)::r,sl',ks,h=>by
  simp only[prS] at h
  split at h
  .rename_i hm
   rw[J2 h,zK]
   by_cases e:j=k
   .subst e
    rw[cW]
    cases h1:iH ks j with
    |true=>simp
    |false=>simp only[h1,Zu] at hm;rw[T.isAny_eq hm];simp
   rw[cy _ _ e,jo e];rfl
  rename_i hm
  split at h
  .rename_i r' h1;cases h
   have h2:iH ks j=false:=by cases h3:iH ks j<;>simp_all
   by_cases e:j=k
   .subst e;rw[cW,cW,h2];rfl
   rw[cy _ _ e,cy _ _ e,J2 h1,zK,jo e];rfl
  cases h
theorem J1{k:Nat}:∀{ob ob':Laa} {ks:List Nat},prO ks ob=ς ob'->go ob' k=bif iH ks k then ξ else go ob k
 |[],ob',ks,h=>by cases h;simp[go]
 |(j,x)::r,ob',ks,h=>by
  simp only[prO] at h
  split at h
  .rename_i hm
   rw[J1 h]
   by_cases e:j=k
   .subst e;rw[hm];rfl
   rw[bG _ _ e]
  rename_i hm
  split at h
  .rename_i r' h1;cases h
   by_cases e:j=k
   .subst e;rw[b9,b9,hm];rfl
   rw[bG _ _ e,bG _ _ e,J1 h1,zK,jo e];rfl
  cases h
theorem A6{ob:Laa}(h1:prS [] sl=ς sl')(h2:prO [] ob=ς ob'):cM N ⟨sl,ob,nx⟩ ⟨sl',ob',nx⟩:=λcx E a w h=>
 ⟨E,h.ok,h.dom,λo x ho=>h.obs o x (by have:=J1 (k:=o) h2;rw[this] at ho;exact ho),λk=>by have:=J2 (k:=k) h1;rw[this];exact h.sl k,h.dfr,h.size,h.td⟩
theorem fxP{ob:Laa}{M:St}(h1:prS [] sl=ς sl')(h2:prO [] ob=ς ob')(w:cM N ⟨sl',ob',nx⟩ M):cM N ⟨sl,ob,nx⟩ M:=aJ (A6 h1 h2) w
class EnT(P:Program)(e:TypeId)(α:outParam Type)(enc:outParam (α->List D)):Prop
def natOf:Int->Option Nat
 | .ofNat n=>ς n
 |_=>ξ
def PW(N:Nat)(s0:St)(args:List Operand)(s:St)(G:Prop):Prop:=cM N s0 s->G
section
variable{P:Program}{N:Nat}{d:Tmp}{ty t:TypeId}{ps:String}{af:Array Edge}{gd:Option (Nat×Bool)}{x y:Operand}{sl sl':Lab}{ob ob':Laa}{nx:Nat}{α:Type}{enc:α->List D}{ops:Array Oper}{l:List Oper}{K:St->Prop}{st0 st1 base:St}{lz:List (Nat×Oper)}{dn seg dn':List Nat}{ys:List Inx}{p:Nat}{R:Prop}
theorem ishF{op:BinOp}{t':TypeId}{g':Bool}{k k':IntKind}{a b r:Int}(hx:opT sl x= .v (.c (.d g (.i k a))))(hy:opT sl y= .v (.c (.d g' (.i k' b))))(hb:natOf b=ς n)(hN:nlt d N=ζ)(h:Sa op k a n=ς r):
 NS0 P N ⟨ς d,.binOp op t x y t',ty,ps,af,gd⟩ sl ob nx d (.v (.c (.d η (.i k r)))) ⟨d,[(x,.v (.c (.d g (.i k a)))),(y,.v (.c (.d g' (.i k' (n:Int)))))],[],.v (.c (.d η (.i k r))),[]⟩:=by
 cases b with
 |ofNat m=>cases hb;exact ishL hx hy hN h
 |negSucc m=>cases hb
theorem pwU{s0:St}{us:List α}{a:α}{o:Nat}(hx:opT sl x= .v (.c (.e o sz i.toNat j)))(ho:go ob o=ς (.rown e sz (us.map enc) g))(q:ix us i=ς a)(hs:tH (Gz o) sl=ς sl')(hb:sD (Gz o) (OE o) ob=ς ob')(w:PW N s0 [x,y] ⟨sl',ob',nx⟩ G):PW N s0 [x,y] ⟨sl,ob,nx⟩ G:=λk=>w (aJ k (jL o ho (uq (enc:=enc) q) hs hb))
theorem pwS{s0:St}{us:List α}{a:α}{o rt:Nat}(hx:opT sl x= .v (.c (.e o sz i.toNat j)))(ho:go ob o=ς (.row rt sz (us.map enc) g ζ))(q:ix us i=ς a)(w:Tag us i.toNat->PW N s0 [x,y] ⟨sl,ob,nx⟩ G):PW N s0 [x,y] ⟨sl,ob,nx⟩ G:=w ⟨⟩
theorem zSt(h:PW N st0 [x,y] st0 (DZ P N ops ((p,⟨ξ,.store t x y,ty,ps,af,ξ⟩)::lz) dn seg ys base st0 K)):DZ P N ops ((p,⟨ξ,.store t x y,ty,ps,af,ξ⟩)::lz) dn seg ys base st0 K:=h (kU _)
theorem zPc{args:List Operand}{tys:Array TypeId}(h:PW N st0 args st0 (DZ P N ops ((p,⟨ς d,.call ⟨.value (.func f),args.toArray,tys⟩,ty,ps,af,ξ⟩)::lz) dn seg ys base st0 K)):DZ P N ops ((p,⟨ς d,.call ⟨.value (.func f),args.toArray,tys⟩,ty,ps,af,ξ⟩)::lz) dn seg ys base st0 K:=h (kU _)
theorem zBt{o:Oper}(hw:cM N s st0)(h:AWO P N o st0 st1)(hr:R)(hg:o.guard=none:=by exact rfl)(hs:vw ops dn seg ys=true:=by kernel_rfl)(hkl:kls ys=[]:=by exact rfl)(hb:Bo ops (seg++dn) p=true:=by kernel_rfl)(hlo:p::(seg++dn)=dn':=by exact rfl)(w:R->DZ P N ops lz dn' [] [] st1 st1 K:=by exact wJ):
 DZ P N ops ((p,o)::lz) dn seg ys base s K:=zB hw (kh hg h) cz hr hs hkl hb hlo w
theorem aSu{us:List α}{a:α}{o:Nat}(hx:opT sl x= .v (.c (.e o sz i.toNat j)))(ho:go ob o=ς (.rown e sz (us.map enc) g))(q:ix us i=ς a)(hs:tH (Gz o) sl=ς sl')(hb:sD (Gz o) (OE o) ob=ς ob')(w:AWR P N ops (⟨ξ,.store t x y,ty,ps,af,gd⟩::l) ⟨sl',ob',nx⟩ K):AWR P N ops (⟨ξ,.store t x y,ty,ps,af,gd⟩::l) ⟨sl,ob,nx⟩ K:=eC (jL o ho (uq (enc:=enc) q) hs hb) w
theorem apE{by_ o:Nat}{ys zs:List α}{c:C}(H:cN by_ (ys++zs).length=ζ)[dB P t e sz by_][EnT P e α enc](hd:nlt d N=true:=by exact rfl)(hx:opT sl x= .v (.c (.w o n)):=by exact rfl)(ho:go ob o=ς (.row e sz (ys.map enc) g ζ):=by exact rfl)(hy:opT sl y= .v (.c c):=by exact rfl)(hn:ys.length=n:=by first|rfl|simp)(hs:Src ob c (zs.map enc) gy:=by first|exact .d|exact .nil|exact .w rfl (by first|rfl|exact lm _|simp)|exact .wn rfl (by first|rfl|exact lm _|simp)|exact IO (by assumption) rfl|exact Et (by assumption) (by first|rfl|simp) rfl)(henc:∀a,(enc a).length=sz:=by exact λ_=>rfl)(hk:mf o sl=ς sl':=by exact rfl)(hkb:kt o ob=ς ob':=by exact rfl)(hg:(g&&gy)=gg:=by exact rfl)(hrv:rsp o=false:=by exact rfl):
 AWO P N ⟨ς d,.call ⟨.builtin .append,#[x,y],#[t,t]⟩,ty,ps,af,gd⟩ ⟨sl,ob,nx⟩ ⟨(d,.v (.c (.w o (ys++zs).length)))::sl',(o,.row e sz ((ys++zs).map enc) gg ζ)::ob',nx⟩:=apT H rfl henc hd hx hy hn hs ho hk hkb hg hrv
theorem apEf{by_ o:Nat}{ys zs:List α}{c:C}(H:cN by_ (ys++zs).length=ζ)[dB P t e sz by_][EnT P e α enc](hd:nlt d N=true:=by exact rfl)(hx:opT sl x= .v (.c (.w o n)):=by exact rfl)(ho:go ob o=ς (.row e sz (ys.map enc) g ζ):=by exact rfl)(hy:opT sl y= .v (.c c):=by exact rfl)(hn:ys.length=n:=by first|rfl|simp)(hs:Src ob c (zs.map enc) gy:=by first|exact .d|exact .nil|exact .w rfl (by first|rfl|exact lm _|simp)|exact .wn rfl (by first|rfl|exact lm _|simp)|exact IO (by assumption) rfl|exact Et (by assumption) (by first|rfl|simp) rfl)(henc:∀a,(enc a).length=sz:=by exact λ_=>rfl)(hf:∀a,qO (enc a)=true:=by exact λ_=>rfl)(hk:mf o sl=ς sl':=by exact rfl)(hkb:kt o ob=ς ob':=by exact rfl)(hrv:rsp o=false:=by exact rfl):
 AWO P N ⟨ς d,.call ⟨.builtin .append,#[x,y],#[t,t]⟩,ty,ps,af,gd⟩ ⟨sl,ob,nx⟩ ⟨(d,.v (.c (.w o (ys++zs).length)))::sl',(o,.row e sz ((ys++zs).map enc) ζ ζ)::(o,.row e sz ((ys++zs).map enc) (g&&gy) ζ)::ob',nx⟩:=awoW (apT H rfl henc hd hx hy hn hs ho hk hkb rfl hrv) (wL (b9 _ _ _) hf)
end
section
variable{P:Program}{N:Nat}{d:Tmp}{ty:TypeId}{ps:String}{af:Array Edge}{gd:Option (Nat×Bool)}{f:FuncId}{args:List Operand}{tys:Array TypeId}{sl sl':Lab}{ob ob' ob1 ob2:Laa}{nx:Nat}{ts ts':List T}{xs ys ys' nw nw':Laa}{out out':T}{p:Prop}{m e:Lac}
end
section
variable{P:Program}{N:Nat}{f:FuncId}{args:List Operand}{sl:Lab}{ob:Laa}{nx:Nat}{ts ts':List T}{xs ys nw:Laa}{out:T}{p G:Prop}{m:Lac}{x:Fx}{st s0:St}
theorem pwT{e:Lac}(q:p)[i:FCV P p f xs ts' ys out nw](ht:pj sl args=ς ts)(hM:mkM xs ob ts' ts=ς m)(h:tnL xs ob m=ς x)(ha:app sl ob nx x=ς (st,e))(he:Eqs e)(w:PW N s0 args st G):PW N s0 args ⟨sl,ob,nx⟩ G:=λk=>w (aJ k (tj ha he))
variable{d:Tmp}{ty:TypeId}{ps:String}{af:Array Edge}{gd:Option (Nat×Bool)}{tys:Array TypeId}{ops:Array Oper}{l:List Oper}{K:St->Prop}{sl':Lab}{ob':Laa}{e:Lac}
theorem awP(h1:prS [] sl=ς sl')(h2:prO [] ob=ς ob')(w:AWR P N ops l ⟨sl',ob',nx⟩ K):AWR P N ops l ⟨sl,ob,nx⟩ K:=eC (A6 h1 h2) w
theorem awL(q:p)[i:FCV P p f xs ts' ys out nw](ht:pj sl args=ς ts)(hM:mkM xs ob ts' ts=ς m)(hL:wnL (lnX m xs) sl ob=ς (sl',ob',e))(he:Eqs e)(w:AWR P N ops (⟨ς d,.call ⟨.value (.func f),args.toArray,tys⟩,ty,ps,af,gd⟩::l) ⟨sl',ob',nx⟩ K):AWR P N ops (⟨ς d,.call ⟨.value (.func f),args.toArray,tys⟩,ty,ps,af,gd⟩::l) ⟨sl,ob,nx⟩ K:=eC (zl hL he) w
theorem pwP(h1:prS [] sl=ς sl')(h2:prO [] ob=ς ob')(w:PW N s0 args ⟨sl',ob',nx⟩ G):PW N s0 args ⟨sl,ob,nx⟩ G:=λk=>w (aJ k (A6 h1 h2))
theorem pwL(q:p)[i:FCV P p f xs ts' ys out nw](ht:pj sl args=ς ts)(hM:mkM xs ob ts' ts=ς m)(hL:wnL (lnX m xs) sl ob=ς (sl',ob',e))(he:Eqs e)(w:PW N s0 args ⟨sl',ob',nx⟩ G):PW N s0 args ⟨sl,ob,nx⟩ G:=λk=>w (aJ k (zl hL he))
end
def uC(o j:Nat)(cs:List C)(ob:Laa):Laa:=match go ob o with
 |some (.var t ds)=>(o,.var t (ds.take j++(cs++ds.drop (j+cs.length))))::ob
 |_=>ob
def fxT(ob:Laa)(k:Nat):List C->Option Fx
 |[]=>ξ
 | .w o _::cs=>bif rsv o then fxT ob k cs else match go ob o with
  |some (.row _ _ _ _ ζ)=>ς (.fz o)
  |_=>ς (.cs (.s k))
 | .wn o _::cs=>bif rsv o then fxT ob k cs else ς (.fn o)
 |_::cs=>fxT ob k cs
def fxA(sl:Lab)(ob:Laa):List Operand->Option Fx
 |[]=>ξ
 | .tmp k::r=>match fxT ob k (Po (gt sl k)) with
  |some x=>ς x
  |none=>fxA sl ob r
 |_::r=>fxA sl ob r
def lnR:List C->List RC->Lac
 | .w o _::cs,.own _ _ _ n::rs=>(o,n)::lnR cs rs
 |_::cs,_::rs=>lnR cs rs
 |_,_=>[]
def lnRs(sl:Lab)(ob:Laa):List ResultVar->List RV->Lac
 |r::rs,v::vs=>lnR (N5 sl ob r).1 (rcsV v)++lnRs sl ob rs vs
 |_,_=>[]
section
variable{P:Program}{N:Nat}{d:Tmp}{ty t:TypeId}{ps:String}{af:Array Edge}{gd:Option (Nat×Bool)}{f:FuncId}{args:List Operand}{tys:Array TypeId}{sl sl':Lab}{ob ob' ob1 ob2:Laa}{nx:Nat}{ts ts':List T}{xs ys ys' nw nw':Laa}{out out':T}{p G:Prop}{m e:Lac}{x y:Operand}{fxx:Fx}{st s0:St}{ops:Array Oper}{l:List Oper}{K:St->Prop}{rs:List ResultVar}{res:List RV}{ex:Exit}{z:Ob}
theorem aZx(h:fxA sl ob args=ς fxx)(ha:app sl ob nx fxx=ς (st,e))(he:Eqs e)(w:AWR P N ops (⟨ς d,.call ⟨.value (.func f),args.toArray,tys⟩,ty,ps,af,gd⟩::l) st K):AWR P N ops (⟨ς d,.call ⟨.value (.func f),args.toArray,tys⟩,ty,ps,af,gd⟩::l) ⟨sl,ob,nx⟩ K:=eC (tj ha he) w
theorem aSx(h:fxA sl ob [y]=ς fxx)(ha:app sl ob nx fxx=ς (st,e))(he:Eqs e)(w:AWR P N ops (⟨ξ,.store t x y,ty,ps,af,gd⟩::l) st K):AWR P N ops (⟨ξ,.store t x y,ty,ps,af,gd⟩::l) ⟨sl,ob,nx⟩ K:=eC (tj ha he) w
theorem pwX(h:fxA sl ob args=ς fxx)(ha:app sl ob nx fxx=ς (st,e))(he:Eqs e)(w:PW N s0 args st G):PW N s0 args ⟨sl,ob,nx⟩ G:=λk=>w (aJ k (tj ha he))
theorem pW{sl2:Lab}(h1:prS [] sl=ς sl')(h2:prO [] ob=ς ob')(hL:wnL (lnRs sl' ob' rs res) sl' ob'=ς (sl2,ob1,e))(he:Eqs e)(w:th N P rs res ex ⟨sl2,ob1,nx⟩):th N P rs res ex ⟨sl,ob,nx⟩:=Bv (aJ (A6 h1 h2) (zl hL he)) w
end
def fxQ(ob:Laa)(pl:Nat->Pl):Nat->List C->List RC->Option Fx
 |j,.w o _::cs,r::rs=>match r with
  | .d _=>match go ob o with
   |some (.row _ _ _ _ ζ)=>ς (.fz o)
   |_=>ς (.cs (pl j))
  |_=>fxQ ob pl (j+1) cs rs
 |j,.nil::cs,r::rs=>match r with
  | .d _=>ς (.ls (pl j))
  |_=>fxQ ob pl (j+1) cs rs
 |j,_::cs,_::rs=>fxQ ob pl (j+1) cs rs
 |_,_,_=>ξ
def fxR(sl:Lab)(ob:Laa):List ResultVar->List RV->Option Fx
 |r::rs,v::vs=>match fxQ ob (λj=>bif(N5 sl ob r).2.2 then(match v with
  | .c _=>.s (N5 sl ob r).2.1
  | .agg _=>.a (N5 sl ob r).2.1 j) else .v (N5 sl ob r).2.1 j) 0 (N5 sl ob r).1 (rcsV v) with
  |some x=>ς x
  |none=>fxR sl ob rs vs
 |_,_=>ξ
def gIn(N:Nat)(ops:Array Oper)(sl:Lab)(g:Option (Nat×Bool))(x:Inf):Option Inf:=match g with
 |none=>ς x
 |some (j,b)=>match(ops[j]?).bind (·.dst) with
  |none=>ξ
  |some dj=>match gt sl dj,nlt dj N with
   | .v (.c (.d η (.b c))),ζ=>bif c==b then ς {x with needs:=(.tmp dj,tB b)::x.needs} else ξ
   |_,_=>ξ
theorem Fo{ops:Array Oper}{g:Option (Nat×Bool)}{x x':Inf}(h:gIn N ops sl g x=ς x'):(g=ξ/\x'=x)\/∃j b dj,g=ς (j,b)/\(ops[j]?).bind (·.dst)=ς dj/\nlt dj N=ζ/\gt sl dj=tB b/\x'={x with needs:=(.tmp dj,tB b)::x.needs}:=by
 unfold gIn at h
 split at h
 .cases h;exact .inl ⟨rfl,rfl⟩
 split at h
 .cases h
 split at h
 .rename_i j b q dj hj q1 q2 c h1 h2
  cases hc:c==b with
  |false=>rw[hc] at h;cases h
  |true=>rw[hc] at h;cases h;have:=eq_of_beq hc;subst this;exact .inr ⟨_,_,_,rfl,hj,h2,h1,rfl⟩
 cases h
section
variable{P:Program}{N:Nat}{d:Tmp}{ty t:TypeId}{ps:String}{af:Array Edge}{gd:Option (Nat×Bool)}{f:FuncId}{args:List Operand}{tys:Array TypeId}{sl sl':Lab}{ob ob' ob1 ob2:Laa}{nx:Nat}{ts ts':List T}{xs ys ys' nw nw':Laa}{out out':T}{p G:Prop}{m e:Lac}{st st' s0:St}{ops:Array Oper}{l:List Oper}{K:St->Prop}{rs:List ResultVar}{res:List RV}{ex:Exit}{z:Ob}{up:Bool}{fxx:Fx}{o:Oper}{x x':Inf}{R:Prop}{is:List Inf}{KK:List Inf->St->Prop}{lz:List (Nat×Oper)}{dn seg:List Nat}{zs:List Inx}{base:St}{q:Nat}
theorem nU(h:NS P N o st st' x)(hr:R)(hg:gIn N ops st.sl o.guard x=ς x':=by exact rfl)(w:R->AWR P N ops l st' K:=by exact wJ):AWR P N ops (o::l) st K:=by
 rcases Fo hg with⟨h1,_⟩|⟨j,b,dj,h1,h2,h3,h4,_⟩
 .exact o6 h1 h (w hr)
 exact Bm h1 h2 h3 h4 h (w hr)
theorem dN(h:NS P N o st st' x)(hr:R)(hg:gIn N ops st.sl o.guard x=ς x':=by exact rfl)(w:R->DR P N ops l (is++[x']) st' KK:=by exact wJ):DR P N ops (o::l) is st KK:=by
 rcases Fo hg with⟨h1,e⟩|⟨j,b,dj,h1,h2,h3,h4,e⟩<;>subst e
 .exact Wk h1 h (w hr)
 exact PG h1 h2 h3 h4 h (w hr)
theorem zN(h:NS P N o st st' x)(hr:R)(hg:gIn N ops st.sl o.guard x=ς x':=by exact rfl)(w:R->DZ P N ops lz dn (seg++[q]) (zs++[⟨x',[],ξ⟩]) base st' K:=by exact wJ):DZ P N ops ((q,o)::lz) dn seg zs base st K:=by
 rcases Fo hg with⟨h1,e⟩|⟨j,b,dj,h1,h2,h3,h4,e⟩<;>subst e
 .exact gA h1 h (w hr)
 exact K8 h1 h2 h3 h4 h (w hr)
theorem pX(h:fxR sl ob rs res=ς fxx)(ha:app sl ob nx fxx=ς (st,e))(he:Eqs e)(w:th N P rs res ex st):th N P rs res ex ⟨sl,ob,nx⟩:=Bv (tj ha he) w
theorem rX(h:fxR sl ob rs res=ς fxx)(ha:app sl ob nx fxx=ς (st,e))(he:Eqs e)(w:pL N P rs res z ex st):pL N P rs res z ex ⟨sl,ob,nx⟩:=tv (tj ha he) w
theorem cvB(up:Bool)(q:p)[i:FCV P p f xs ts' ys out nw](ht:pj sl args=ς ts:=by exact rfl)(hM:mkM xs ob ts' ts=ς m:=by exact rfl)(ha:p6 (agC up ob (inv m)) ts=ς ts':=by exact rfl)(hx:xg (inv m) ob m=ς xs:=by exact rfl)(hm:mOK m (nlM nw nx) nx (nlN nw nx) ys=true:=by exact rfl)(hs:tH (kvC (inv m)) sl=ς sl':=by exact rfl)(hb:sD (kvC (inv m)) (λ_ x=>ς x) ob=ς ob':=by exact rfl)(hy:qg (m++nlM nw nx) ys=ς ys':=by exact rfl)(hw:qg (m++nlM nw nx) nw=ς nw':=by exact rfl)(ho:wV (rlC (m++nlM nw nx)) out=ς out':=by exact rfl)(hsl:wY nx sl=true:=by exact rfl)(hol:qR nx ob=true:=by exact rfl)(hN:nlt d N=true:=by exact rfl)(h1:apO ys' ob'=ς ob1:=by exact rfl)(h2:apO nw' ob1=ς ob2:=by exact rfl):
 AWO P N ⟨ς d,.call ⟨.value (.func f),args.toArray,tys⟩,ty,ps,af,gd⟩ ⟨sl,ob,nx⟩ ⟨(d,out')::sl',ob2,nlN nw nx⟩:=by
 rw[rL h2,rL h1]
 exact FV (i.h q) ht ha hx hm hs hb hy hw ho hsl hol hN
end
class FCF(P:Program)(p:Prop)(f:outParam FuncId)(as:outParam (List AV))(rs:outParam (List RV)):Prop where
 h:p->Fn P f as rs
section
variable{P:Program}{N:Nat}{d:Tmp}{ty t:TypeId}{ps:String}{af:Array Edge}{gd:Option (Nat×Bool)}{f:FuncId}{args:List Operand}{tys:Array TypeId}{sl:Lab}{ob ob':Laa}{nx n:Nat}{ts:List T}{nw nob:Laa}{out:T}{p:Prop}{e:Lac}{st:St}{ops:Array Oper}{l:List Oper}{K:St->Prop}{res:List RV}{fxx:Fx}{len:Nat}{parts:List (Nat×Operand)}{avs:List AV}{eqs:Lac}
theorem aBx(h:fxA sl ob (parts.map (·.2))=ς fxx)(ha:app sl ob nx fxx=ς (st,e))(he:Eqs e)(w:AWR P N ops (⟨ς d,.buildSlice t len parts.toArray,ty,ps,af,gd⟩::l) st K):AWR P N ops (⟨ς d,.buildSlice t len parts.toArray,ty,ps,af,gd⟩::l) ⟨sl,ob,nx⟩ K:=eC (tj ha he) w
structure HX(d:Tmp):Prop where
theorem hx(d:Tmp):HX d:=⟨⟩
theorem caZ(J:HX d)(q:p)[i:FC P p f avs res](hz:BP res:=by repeat (first|exact θ|refine⟨?_,?_⟩|exact lm _|rfl))(ht:pj sl args=ς ts:=by exact rfl)(hp:nM ob (BZ ts)=ς nob:=by exact rfl)(ha:uf nob ts=ς (avs,eqs):=by exact rfl)(he:Eqs eqs:=by repeat (first|exact θ|refine⟨by first|rfl|exact lm _|simp,?_⟩))(hi:xF nx (res.map RV.frz)=ς (out,nw,n):=by exact rfl)(hw:As nx nw n=true:=by exact rfl)(hN:nlt d N=true:=by exact rfl)(hob:apO nw ob=ς ob':=by exact rfl):
 NS P N ⟨ς d,.call ⟨.value (.func f),args.toArray,tys⟩,ty,ps,af,gd⟩ ⟨sl,ob,nx⟩ ⟨(d,out)::sl,ob',n⟩ ⟨d,args.zip ts,nob,out,nw⟩:=ca ht hp ha ((i.h q).frzs hz) he hi hw hN hob
theorem caY(J:HX d)(q:p)[i:FCF P p f avs res](ht:pj sl args=ς ts:=by exact rfl)(hp:nM ob (BZ ts)=ς nob:=by exact rfl)(ha:uf nob ts=ς (avs,eqs):=by exact rfl)(he:Eqs eqs:=by repeat (first|exact θ|refine⟨by first|rfl|exact lm _|simp,?_⟩))(hi:xF nx res=ς (out,nw,n):=by exact rfl)(hw:As nx nw n=true:=by exact rfl)(hN:nlt d N=true:=by exact rfl)(hob:apO nw ob=ς ob':=by exact rfl):
 NS P N ⟨ς d,.call ⟨.value (.func f),args.toArray,tys⟩,ty,ps,af,gd⟩ ⟨sl,ob,nx⟩ ⟨(d,out)::sl,ob',n⟩ ⟨d,args.zip ts,nob,out,nw⟩:=ca ht hp ha (i.h q) he hi hw hN hob
end
theorem zBa{ops:Array Oper}{lz:List (Nat×Oper)}{dn seg dn':List Nat}{ys:List Inx}{base st1:St}{K:St->Prop}{o:Oper}{p:Nat}(h:AWO P N o s st1)(hr:R)(hb:Bo ops (seg++dn) p=true:=by exact rfl)(hg:o.guard=none:=by exact rfl)(hs:vw ops dn seg ys=true:=by kernel_rfl)(hkl:kls ys=[]:=by exact rfl)(hlo:p::(seg++dn)=dn':=by exact rfl)(w:R->DZ P N ops lz dn' [] [] st1 st1 K:=by exact wJ):DZ P N ops ((p,o)::lz) dn seg ys base s K:=zB (kU _) (kh hg h) cz hr hs hkl hb hlo w
section
variable{P:Program}{N:Nat}{st st':St}{ops:Array Oper}{l:List Oper}{K:St->Prop}{o:Oper}{R:Prop}{is:List Inf}{KK:List Inf->St->Prop}{lz:List (Nat×Oper)}{dn seg:List Nat}{ys:List Inx}{base:St}{q j:Nat}{b:Bool}
def gNo(N:Nat)(ops:Array Oper)(sl:Lab)(g:Option (Nat×Bool)):Bool:=(gIn N ops sl g ⟨0,[],[],.any,[]⟩).isSome
theorem sU(h:AWO P N o st st')(hr:R)(hg:gNo N ops st.sl o.guard=true:=by exact rfl)(w:R->AWR P N ops l st' K:=by exact wJ):AWR P N ops (o::l) st K:=by
 obtain⟨x,hx⟩:=ZN.1 hg
 rcases Fo hx with⟨h1,_⟩|⟨j,b,dj,h1,h2,h3,h4,_⟩
 .exact eV h1 h (w hr)
 exact fX h1 h2 (cO h3) h4 h (w hr)
end
section
variable{P:Program}{N:Nat}{d:Tmp}{ty t:TypeId}{ps:String}{af:Array Edge}{gd:Option (Nat×Bool)}{x y:Operand}{sl sl':Lab}{ob ob':Laa}{nx:Nat}{α:Type}{enc:α->List D}{e sz by_ o n:Nat}{ys zs:List α}{g gy gg:Bool}{c:C}
theorem apTe[dB P t e sz by_][EnT P e α enc](H:cN by_ (ys++zs).length=ζ)(hne:zs≠[]:=by first|exact List.cons_ne_nil _ _|simp)(hd:nlt d N=true:=by exact rfl)(hx:opT sl x= .v (.c (.wn o n)):=by exact rfl)(ho:go ob o=ς (.rown e sz (ys.map enc) g):=by exact rfl)(hy:opT sl y= .v (.c c):=by exact rfl)(hn:ys.length=n:=by first|rfl|simp)(hs:Src ob c (zs.map enc) gy:=by first|exact .d|exact .nil|exact .w rfl (by first|rfl|exact lm _|simp)|exact .wn rfl (by first|rfl|exact lm _|simp))(henc:∀a,(enc a).length=sz:=by exact λ_=>rfl)(hk:mf o sl=ς sl':=by exact rfl)(hkb:kt o ob=ς ob':=by exact rfl)(hg:(g&&gy)=gg:=by exact rfl)(hrv:rsp o=false:=by exact rfl)(hnv:rsv nx=false:=by exact rfl)(hol:nlt o nx=true:=by exact rfl):
 AWO P N ⟨ς d,.call ⟨.builtin .append,#[x,y],#[t,t]⟩,ty,ps,af,gd⟩ ⟨sl,ob,nx⟩ ⟨(d,.v (.c (.w o (ys++zs).length)))::sl',(o,.row e sz ((ys++zs).map enc) gg ζ)::ob',nx⟩:=GU H hne rfl henc hn hs hd hx hy ho hk hkb hg hrv hnv hol
theorem cpS{l:Int}[dB P t e sz by_][EnT P e α enc](hd:nlt d N=true:=by exact rfl)(hx:opT sl x= .v (.c (.s o sz l.toNat (n-l.toNat))):=by exact rfl)(ho:go ob o=ς (.row e sz (ys.map enc) g ζ):=by exact rfl)(H:fa ys l ys.length=true:=by assumption)(hy:opT sl y= .v (.c c):=by exact rfl)(hn:ys.length=n:=by first|rfl|simp)(hs:Src ob c (zs.map enc) gy:=by first|exact .d|exact .w rfl (by first|rfl|exact lm _|simp)|exact Et (by assumption) (by first|rfl|simp) rfl)(henc:∀a,(enc a).length=sz:=by exact λ_=>rfl)(hg:(g&&gy)=gg:=by exact rfl):
 AWO P N ⟨ς d,.call ⟨.builtin .copy,#[x,y],#[t,t]⟩,ty,ps,af,gd⟩ ⟨sl,ob,nx⟩ ⟨(d,.any)::sl,(o,.row e sz ((cpD ys l.toNat zs).map enc) gg ζ)::ob,nx⟩:=cpsT H rfl henc hd hx hy hn hs ho hg
end
section
variable{p G:Prop}
theorem eqs(h:p:=by repeat (first|exact θ|refine⟨by first|rfl|exact lm _|simp,?_⟩)):p:=h
theorem rvs(h:p:=by repeat' (first|exact .nil|apply ki.cons|exact .tmp rfl|exact .cell rfl rfl rfl|exact .cell1 rfl rfl)):p:=h
theorem los(h:p:=by repeat (first|exact θ|refine⟨rfl,?_⟩)):p:=h
theorem wl(h:p:=by((try refine fxU rfl ?_);refine fxP rfl rfl ?_;(repeat refine fxF rfl rfl eqs ?_);exact wg)):p:=h
theorem nq(q:p)(h:p->G:=by(intro q;first|exact caF q|exact ns_fn (by exact rfl) (caF q)|exact xdF q|exact xwT q|exact mb q)):G:=h q
theorem nh(q:p)(h:p->G:=by(intro h;first|exact mkF h|exact ir rfl rfl rfl (ne0 h)|exact iq rfl rfl rfl (ne0 h)|exact cdhF h|exact cdlF h|exact ishT h rfl rfl rfl rfl|exact TR h (by first|rfl|simp) rfl rfl rfl rfl|exact TS h (by first|rfl|simp) rfl rfl rfl rfl)):G:=h q
theorem n0(h:G:=by first|exact oeaF|exact oeF|exact oeanF|exact oenF|exact ir rfl rfl rfl (by decide)|exact iq rfl rfl rfl (by decide)|exact ishF rfl rfl rfl rfl rfl):G:=h
theorem aw(q:p)(h:p->G:=by(intro q;first|exact cwF q|exact cvB ζ q|exact cvU q|exact cvB η q)):G:=h q
end
structure HA(id p q:Nat)(o1 o2:List Nat){α:Type}(F:FSt α):Prop
theorem hA(id p q:Nat)(o1 o2:List Nat)(F:FSt α):HA id p q o1 o2 F:=⟨⟩
theorem ja{p:Nat}{o1 o2:List Nat}{β:Type}{x:Option α}{f:α->Option β}{y:β}{F:FSt α}{AQ:Exit->St->Prop}{ob:Laa}{ll:List Oper}{r1 r2:List (Nat×Oper)}(H:x.bind f=ς y)(J:HA id p q o1 o2 F)[c:Clo N AQ](w1:∀v,x=ς v->DZ P N (kX ll p q).toArray r1 [] [] [] ⟨sl,ob,nx⟩ ⟨sl,ob,nx⟩ (λs=>cM N s (F v sl ob nx)))(w2:∀v,x=ς v->DZ P N (kX ll q p).toArray r2 [] [] [] ⟨sl,ob,nx⟩ ⟨sl,ob,nx⟩ (λs=>cM N s (F v sl ob nx)))(w3:∀v,f v=ς y->AQ .normal (F v sl ob nx))(hpq:f4 p q=false:=by exact rfl)(hm:P.follows .mixedOrders=true:=by exact Try.follows)(e1:Fh (kX ll p q).toArray o1=true:=by kernel_rfl)(c1:Jp (kX ll p q).length o1=true:=by kernel_rfl)(h1:Cc (kX ll p q) o1=ς r1:=by exact rfl)(e2:Fh (kX ll q p).toArray o2=true:=by kernel_rfl)(c2:Jp (kX ll q p).length o2=true:=by kernel_rfl)(h2:Cc (kX ll q p) o2=ς r2:=by exact rfl):AWC P N (.region id ll.toArray ζ) ⟨sl,ob,nx⟩ AQ:=by
 obtain⟨v,k1,k2⟩:=Zw.1 H
 exact KT _ hm (DA p q hpq (EV o1 e1 c1 h1 (w1 v k1)) (EV o2 e2 c2 h2 (w2 v k1))) (w3 v k2)
theorem go0(h:p->G:=by
 intro H
 refine wI ?_
 repeat' (first
 |(refine iR ?_;first
 |(refine aa H ?_;intro x q H;first|refine nU (nq q) ?_|((repeat refine cvN q rfl rfl rfl rfl eqs ?_);refine sU (aw q) ?_))
 |refine aZx rfl rfl eqs ?_
 |(refine aa H ?_;intro x q H;refine awP rfl rfl ?_;refine awL q rfl rfl rfl eqs ?_;(repeat refine cvN q rfl rfl rfl rfl eqs ?_);refine sU (aw q) ?_)
 |(refine aq H ?_;intro h H;first|refine nU (nh h) ?_|refine sU (apEf h) ?_|refine sU (apE h) ?_|refine sU (apTe h) ?_)
 |(refine aBx rfl rfl eqs ?_;(repeat refine aBx rfl rfl eqs ?_);refine wI ?_)
 |refine nU n0 ?_|refine sU cpFf ?_|refine sU cpF ?_|refine sU cpS ?_
 |(refine rSt ?_;first|refine aSu rfl rfl (by assumption) rfl rfl ?_|refine aSx rfl rfl eqs ?_|(refine rSo rfl rfl (by assumption) ?_;intro tg;rw[tg.eq] at H;generalize hv:MY _ _ _=v at H;refine sU (soM hv) ?_;subst hv;simp only[MY] at H))
 |(refine rU rfl ?_;first|(refine jr H rfl rfl (by assumption) ?_ ?_<;>((first|(refine pE ?_;intro _;(repeat (refine pE ?_;intro _));intro v H;(try dsimp only))|intro v H);refine wI ?_))|(refine gC H ?_ ?_<;>intro H)))
 |(refine cK ?_;first|(refine jc H (by assumption) ?_ ?_<;>((first|(refine pE ?_;intro _;(repeat (refine pE ?_;intro _));intro v H;(try dsimp only))|intro v H);refine wI ?_))|(refine cC H ?_ ?_<;>intro H))
 |(refine cL ?_;first|(refine jb H (by assumption) ?_ ?_<;>((first|(refine pE ?_;intro _;(repeat (refine pE ?_;intro _));intro v H;(try dsimp only))|intro v H);refine wI ?_))|(refine il H (by assumption) wl ?_;((first|(refine pE ?_;intro _;(repeat (refine pE ?_;intro _));intro v o H;(try dsimp only))|intro v o H);refine wI ?_)))
 |(refine cR ?_;first|(refine iHZ (by assumption) ?_;refine zR ?_)|(refine ja H (by assumption) ?_ ?_ ?_<;>((first|(refine pE ?_;intro _;(repeat (refine pE ?_;intro _));intro v H;(try dsimp only))|intro v H);refine wI ?_))|refine dI ?_)
 |(refine are H ?_;intro H;refine wI ?_)
 |(refine arr H ?_;intro H;refine wI ?_)
 |(refine iD ?_;first
 |(refine aa H ?_;intro x q H;first|refine dN (nq q) ?_|refine dN (caY (by assumption) q) ?_)
 |(refine aq H ?_;intro h H;refine dN (nh h) ?_)
 |refine dN n0 ?_
 |(refine dU rfl ?_;first|(refine jd H rfl rfl (by assumption) ?_ ?_<;>((first|(refine pE ?_;intro _;(repeat (refine pE ?_;intro _));intro v H;(try dsimp only))|intro v H);refine wI ?_))|(refine dC H ?_ ?_<;>intro H)))
 |(refine iZ ?_;first
 |(refine iZs ?_;first|refine zS ?_|(refine zSt ?_;(repeat (first|refine pwU rfl rfl (by assumption) rfl rfl ?_|refine pwX rfl rfl eqs ?_));refine pwS rfl rfl (by assumption) ?_;intro tg;intro sw;rw[tg.eq] at H;generalize hv:MY _ _ _=v at H;refine zBt sw (soM hv) ?_;subst hv;simp only[MY] at H))
 |(refine aa H ?_;intro x q H;first|refine zN (caZ (by assumption) q) ?_|refine zN (caY (by assumption) q) ?_|refine zN (nq q) ?_|refine wA (cwX q) ?_|(refine zPc ?_;(repeat (first|refine pwT q rfl rfl rfl rfl eqs ?_|refine pwX rfl rfl eqs ?_));intro sw;refine zBt sw (aw q) ?_)|(refine zPc ?_;(repeat (first|refine pwT q rfl rfl rfl rfl eqs ?_|refine pwX rfl rfl eqs ?_));refine pwP rfl rfl ?_;refine pwL q rfl rfl rfl eqs ?_;(repeat (first|refine pwT q rfl rfl rfl rfl eqs ?_|refine pwX rfl rfl eqs ?_));intro sw;refine zBt sw (aw q) ?_))
 |(refine aq H ?_;intro h H;first|refine zN (nh h) ?_|refine zBa (apEf h) ?_|refine zBa (apE h) ?_|refine zBa (apTe h) ?_)
 |refine zBa cpFf ?_|refine zBa cpF ?_|refine zBa cpS ?_
 |refine zN n0 ?_
 |(refine zU rfl ?_;first|(refine jz H rfl rfl (by assumption) ?_ ?_<;>((first|(refine pE ?_;intro _;(repeat (refine pE ?_;intro _));intro v H;(try dsimp only))|intro v H);refine wI ?_))|(refine zC H ?_ ?_<;>intro H)))
 |(refine sgd H ?_;cases H;first|(refine iP ?_;(repeat refine pX rfl rfl eqs ?_);refine pW rfl rfl rfl eqs ?_;exact dK)|(refine iE ?_;(repeat refine pX rfl rfl eqs ?_);refine pW rfl rfl rfl eqs ?_;exact T9)|(refine iPv ?_;refine fvR rfl rfl rfl wl rvs los los)|(refine iEv ?_;refine fvE rfl rfl rfl wl rvs los los)|(refine iPw ?_;(repeat refine rX rfl rfl eqs ?_);exact p4)|(refine iEw ?_;(repeat refine rX rfl rfl eqs ?_);exact PY)|(refine iW ?_;exact wl)|(refine qF ?_;exact wl)|(refine wQ (λhq=>?_);cases hq;refine wI ?_;refine iW ?_;exact wl)))):p->G:=h
theorem gG{c:Code}{args:List AV}{A B C D E F H I J K L M O Q S U W Q1 Q2 Q3 Q4 Q5 Q6 Q7 Q8:Prop}(hf:P.funcs[f]?=ς fn)(hN:fn.ntmps=N)(hA:A:=by exact θ)(hB:B:=by exact θ)(hC:C:=by exact θ)(hD:D:=by exact θ)(hE:E:=by exact θ)(hF:F:=by exact θ)(hG:G:=by exact θ)(hH:H:=by exact θ)(hI:I:=by exact θ)(hJ:J:=by exact θ)(hK:K:=by exact θ)(hL:L:=by exact θ)(hM:M:=by exact θ)(hO:O:=by exact θ)(hQ:Q:=by exact θ)(hS:S:=by exact θ)(hU:U:=by exact θ)(hW:W:=by exact θ)(hQ1:Q1:=by exact θ)(hQ2:Q2:=by exact θ)(hQ3:Q3:=by exact θ)(hQ4:Q4:=by exact θ)(hQ5:Q5:=by exact θ)(hQ6:Q6:=by exact θ)(hQ7:Q7:=by exact θ)(hQ8:Q8:=by exact θ)(hb:fn.body=ς c:=by exact rfl)(hnm:(fn.name== "runtime.NumGoroutine")=false:=by kernel_rfl)(hrs:fn.results.toList=rs:=by exact rfl)(ha:Yk args.length N=true:=by exact rfl)(hs:GW 0 args=ς sl0:=by exact rfl)(w:A->B->C->D->E->F->G->H->I->J->K->L->M->O->Q->S->U->W->Q1->Q2->Q3->Q4->Q5->Q6->Q7->Q8->p->AWC P N c ⟨sl0,[],0⟩ (th N P rs res):=by
 intros _ _ _ _ _ _ _ _ _ _ _ _ _ _ _ _ _ _ _ _ _ _ _ _ _ _
 exact go0):FC P p f args res:=⟨λq=>VD hf hb hnm hN hrs ha hs (w hA hB hC hD hE hF hG hH hI hJ hK hL hM hO hQ hS hU hW hQ1 hQ2 hQ3 hQ4 hQ5 hQ6 hQ7 hQ8 q)⟩
theorem gV{c:Code}{xs ys:Laa}{A B C D E F H I J K L M O Q S U W Q1 Q2 Q3 Q4 Q5 Q6 Q7 Q8:Prop}(hf:P.funcs[f]?=ς fn)(hN:fn.ntmps=N)(hA:A:=by exact θ)(hB:B:=by exact θ)(hC:C:=by exact θ)(hD:D:=by exact θ)(hE:E:=by exact θ)(hF:F:=by exact θ)(hG:G:=by exact θ)(hH:H:=by exact θ)(hI:I:=by exact θ)(hJ:J:=by exact θ)(hK:K:=by exact θ)(hL:L:=by exact θ)(hM:M:=by exact θ)(hO:O:=by exact θ)(hQ:Q:=by exact θ)(hS:S:=by exact θ)(hU:U:=by exact θ)(hW:W:=by exact θ)(hQ1:Q1:=by exact θ)(hQ2:Q2:=by exact θ)(hQ3:Q3:=by exact θ)(hQ4:Q4:=by exact θ)(hQ5:Q5:=by exact θ)(hQ6:Q6:=by exact θ)(hQ7:Q7:=by exact θ)(hQ8:Q8:=by exact θ)(hb:fn.body=ς c:=by exact rfl)(hnm:(fn.name== "runtime.NumGoroutine")=false:=by kernel_rfl)(hrs:fn.results.toList=rs:=by exact rfl)(ha:Yk args.length N=true:=by exact rfl)(hs:tk 0 args=sl0:=by exact rfl)(w:A->B->C->D->E->F->G->H->I->J->K->L->M->O->Q->S->U->W->Q1->Q2->Q3->Q4->Q5->Q6->Q7->Q8->p->AWC P N c ⟨sl0,xs,210⟩ (md N P rs ys out nw):=by
 intros _ _ _ _ _ _ _ _ _ _ _ _ _ _ _ _ _ _ _ _ _ _ _ _ _ _
 exact go0):FCV P p f xs args ys out nw:=⟨λq=>Fl hf hb hnm hN hrs ha hs (w hA hB hC hD hE hF hG hH hI hJ hK hL hM hO hQ hS hU hW hQ1 hQ2 hQ3 hQ4 hQ5 hQ6 hQ7 hQ8 q)⟩
theorem gW{c:Code}{A B C D E F H I J K L M O Q S U W Q1 Q2 Q3 Q4 Q5 Q6 Q7 Q8:Prop}(hf:P.funcs[f]?=ς fn)(hN:fn.ntmps=N)(hA:A:=by exact θ)(hB:B:=by exact θ)(hC:C:=by exact θ)(hD:D:=by exact θ)(hE:E:=by exact θ)(hF:F:=by exact θ)(hG:G:=by exact θ)(hH:H:=by exact θ)(hI:I:=by exact θ)(hJ:J:=by exact θ)(hK:K:=by exact θ)(hL:L:=by exact θ)(hM:M:=by exact θ)(hO:O:=by exact θ)(hQ:Q:=by exact θ)(hS:S:=by exact θ)(hU:U:=by exact θ)(hW:W:=by exact θ)(hQ1:Q1:=by exact θ)(hQ2:Q2:=by exact θ)(hQ3:Q3:=by exact θ)(hQ4:Q4:=by exact θ)(hQ5:Q5:=by exact θ)(hQ6:Q6:=by exact θ)(hQ7:Q7:=by exact θ)(hQ8:Q8:=by exact θ)(hb:fn.body=ς c:=by exact rfl)(hnm:(fn.name== "runtime.NumGoroutine")=false:=by kernel_rfl)(hrs:fn.results.toList=rs:=by exact rfl)(ha:Yk args.length N=true:=by exact rfl)(hfx:x.free=true:=by exact rfl)(hfy:y.free=true:=by exact rfl)(hs:tk 0 args=sl0:=by exact rfl)(w:A->B->C->D->E->F->G->H->I->J->K->L->M->O->Q->S->U->W->Q1->Q2->Q3->Q4->Q5->Q6->Q7->Q8->p->AWC P N c ⟨sl0,[(200,x)],210⟩ (pL N P rs res y):=by
 intros _ _ _ _ _ _ _ _ _ _ _ _ _ _ _ _ _ _ _ _ _ _ _ _ _ _
 exact go0):FCW P p f x args y res:=⟨λq=>P4 hf hb hnm hN hrs ha hfx hfy hs (w hA hB hC hD hE hF hG hH hI hJ hK hL hM hO hQ hS hU hW hQ1 hQ2 hQ3 hQ4 hQ5 hQ6 hQ7 hQ8 q)⟩
theorem Wz(L news:List α)(p q r:Nat)(h:p+q<=L.length)(j:Nat)(u:α)(hj:((L.drop p).take q++news)[j]?=ς u):(L.take (p+q)++news++L.drop r)[p+j]?=ς u:=by
 by_cases h1:j<q
 .rw[Yt (by simp;omega)] at hj
  rw[ZB,Yt (by simp;omega)]
  grind
 rw[Ys (by simp;omega)] at hj
 rw[ZB,Ys (by simp;omega)]
 have hl:j-((L.drop p).take q).length<news.length:=(Yc.1 hj).1
 rw[Yt (by simp at hl ⊢;omega)]
 rw[<-hj];congr 1;simp;omega
theorem Cm{t ty by_:Nat}[ht:dB P t e sz by_]{b o cc m:Nat}{A:Option Addr}{arr:Array Value}{x:Value}{news:Lae}(hh:w.heap[b]?=ς (.cells arr e (0,0)))(ha:arr.size=k*sz)(hn:n<=cc)(hk:o+cc<=k)(hA:cc=0\/A=ς ⟨b,o*sz,ξ⟩)(hs:Go.Src P sz t x m news w)(hb:(n+m)*by_<=140737488355328)(h63:n+m<=9223372036854775807):
 ∃A' cc' w' bn p arr',(Builtin.append_ #[t,t] ty #[.slice A n cc,x]).run P w= .ok (.slice A' (n+m) cc') w'/\n+m<=cc'/\(bn=b\/bn=w.heap.size)/\w.grownBy w' (ς b)/\w'.heap[bn]?=ς (.cells arr' e (0,0))/\
  (n+m=0\/A'=ς ⟨bn,p,ξ⟩)/\∀(j:Nat) (u:Value),(((arr.toList.drop (o*sz)).take (n*sz))++news)[j]?=ς u->arr'[p+j]?=ς u:=by
 obtain⟨ii,zz,i1,i2,i3,i4,i5⟩:=ht.i
 have hmul:o*sz+cc*sz<=arr.size:=by rw[ha,<-Zt];exact YI _ hk
 have hncc:n*sz<=cc*sz:=YI _ hn
 have hol:((arr.toList.drop (o*sz)).take (n*sz)).length=n*sz:=by simp;omega
 subst i2
 by_cases hroom:n+m<=cc
 .by_cases hc0:cc=0
  .subst hc0
   obtain rfl:n=0:=by omega
   obtain rfl:m=0:=by omega
   have hn0:news=[]:=YD (by rw[hs.newsLen,ZH])
   subst hn0
   refine⟨A,0,w,b,0,arr,?_,Yj _,.inl rfl,⟨rfl,rfl,rfl,Yj _,λ_ _ _=>rfl⟩,hh,.inl rfl,λj u hj=>by simp at hj⟩
   rcases hs.kind with⟨e',hk'⟩|hk'<;>cases A<;>simp[Builtin.append_,run_underlying ht.u,run_underlying hk',sizeOf,typeInfo,i1,hs.len,hs.cells,storeCells]
  obtain rfl:=hA.resolve_left hc0
  have hfit:n*ii.size+m*ii.size<=cc*ii.size:=by rw[<-Zt];exact YI _ hroom
  have hst:=run_storeCells_at (P:=P) b (o*ii.size+n*ii.size) e news 0 arr w hh (by rw[hs.newsLen];omega) hs.one
  simp only[YN,hs.newsLen] at hst
  refine⟨_,cc,_,b,o*ii.size,(arr.toList.take (o*ii.size+n*ii.size)++news++arr.toList.drop (o*ii.size+n*ii.size+m*ii.size)).toArray,?_,hroom,.inl rfl,?_,gL _ hh,.inr rfl,λj u hj=>?_⟩
  .rcases hs.kind with⟨e',hk'⟩|hk'<;>simp[Builtin.append_,run_underlying ht.u,run_underlying hk',sizeOf,typeInfo,i1,hs.len,hroom,hs.cells,Addr.add_lit,hst]<;>rfl
  .exact⟨rfl,rfl,rfl,by simp,λk _ hk=>dw w b k _ (λe=>hk (by simp[e]))⟩
  have:=Wz arr.toList news (o*ii.size) (n*ii.size) (o*ii.size+n*ii.size+m*ii.size) (by simp;omega) j u hj
  simpa using this
 have hg:cc<n+m:=by omega
 have hm0:0<ii.size\/True:=.inr trivial
 have hold:(Builtin.firstCells ii.size n (.slice A n cc)).run P w.drew= .ok ((arr.toList.drop (o*ii.size)).take (n*ii.size)).toArray w.drew:=by
  by_cases hn0:n=0
  .subst hn0
   rw[ZH,List.take_zero]
   cases A with
   |none=>exact run_firstCells_none w.drew ii.size 0 0 cc
   |some a=>exact run_firstCells_some w.drew ii.size 0 a 0 cc [] (by simp) (λj u h=>by simp at h)
  obtain rfl:=hA.resolve_left oaa
  refine run_firstCells_some w.drew ii.size n _ n cc _ hol λj u hj=>?_
  rw[rK,d7 (show w.drew.heap[b]?=_ from hh)]
  rw[YK] at hj
  split at hj
  .simpa [YL] using hj
  cases hj
 have hge:=grownCap_ge w (n+m) cc e
 refine⟨_,_,_,w.heap.size,0,_,run_append_grow_src w t t ty e ii zz ht.u i1 i4 A n cc _ hold x m news hs hg oaa (growslice_fits hg (by rw[i3];exact hb)),hge,.inr rfl,⟨rfl,rfl,rfl,by simp,λk hk _=>heap_alloc_old w.drew _ k hk⟩,heap_alloc_new w.drew _,.inr rfl,λj u hj=>?_⟩
 have hjl:=(Yc.1 hj).1
 rw[Yl,Zf (by simpa using hjl)]
 simpa using hj
section
variable{P:Program}{d:Tmp}{ty:TypeId}{ps:String}{af:Array Edge}{gd:Option (Nat×Bool)}{x y:Operand}
theorem HN{by_ o:Nat}{els ys:Lad}{c:C}[ht:dB P t e sz by_](hrv:rsv o=η)(ho:go nob o=ς (.row e sz els g ζ))(hs:Src nob c ys gy)(hn:els.length-off=n)(hsz:∀e∈ys,e.length=sz)(hb:(n+ys.length)*by_<=140737488355328)(h63:n+ys.length<=9223372036854775807):
 AWK P ⟨ς d,.call ⟨.builtin .append,#[x,y],#[t,t]⟩,ty,ps,af,gd⟩ [(x,.v (.c (.s o sz off n))),(y,.v (.c c))] nob (.v (.c (.d (g&&gy) (.l (els.drop off++ys))))) [] [] (ς o):=by
 intro cx E a w ok hne hnob hfr
 have hob:∀l x,go nob l=ς x->cB E w l x:=λl x h=>hnob l x (uR h)
 have h1:cvT E w (.v (.c (.s o sz off n))) (a.eval x):=hne x _ (.head _)
 have h2:cvT E w (.v (.c c)) (a.eval y):=hne y _ (.tail _ (.head _))
 obtain⟨A,cc,b,k,hr,hu,hncc,hoc,hA⟩:=h1
 obtain⟨b',c',arr,hr',hh,ha,hlc,hmx,hes,hrd,hFm,_⟩:=hob o _ ho
 rw[hr] at hr';cases hr'
 have hF:=hFm rfl
 obtain⟨A2,k2,hv,hyk,hA2⟩:=zg hob hs h2
 obtain⟨news,n1,n3,hS⟩:∃news:Lae,news.length=ys.length*sz/\(∀(j:Nat) (xd:D),ys.flatten[j]?=ς xd->∃u,news[j]?=ς u/\rdD w (E.H gy) xd u)/\Go.Src P sz t (.slice A2 ys.length k2) ys.length news w:=by
  rcases hA2 with h0|⟨b2,off2,rfl,hrd2⟩
  .subst h0
   refine⟨[],by simp,by simp,?_⟩
   cases A2 with
   |none=>exact Src.ofNil w ht.u k2
   |some a=>exact Src.ofSlice w ht.u a 0 k2 [] (by simp) (λj u h=>by simp at h) (by simp)
  obtain⟨us,q1,q2,q3,q4⟩:=qf (ew.1 hrd2)
  exact⟨us,by rw[q1,eX hsz],q4,Src.ofSlice w ht.u _ _ k2 us (by rw[q1,eX hsz]) q2 q3⟩
 obtain⟨A',cc',w',bn,p,arr',r1,r2,hbn,r3,hhn,hA',hcur⟩:=Cm (ty:=ty) hh ha hncc hoc hA hS hb h63
 unfold Oper.wp
 simp only[execOp,resolve,invoke,builtin,Sem.run_bind,Sem.run_pure,Result.andThen_ok,Zg,Yq,Y7,hu,hv,r1,Oper.upon_value]
 have hsame:∀k,k<w.heap.size->k≠b->w'.heap[k]?=w.heap[k]?:=λk hk hne=>r3.block k hk (λe=>hne (by injection e))
 have hbig:=Ll hhn
 have hbl:=ok.rb o b k hr
 have hbnew:cx.w0.heap.size<=b:=by
  rcases hbl.2 with h|h
  .exact h
  rw[hrv] at h;cases h.2
 have hbn0:cx.w0.heap.size<=bn:=by
  have:=ok.size
  rcases hbn with rfl|rfl<;>omega
 let E2:Env:=⟨λl=>if l=o then ξ else E.r l,λj=>E.F j\/j=bn,λj=>E.G j\/((g&&gy)=ζ/\j=bn),E.T,E.Z,E.n⟩
 have hr2:∀l z,E2.r l=ς z->l≠o/\E.r l=ς z:=λl z h=>by
  by_cases e:l=o
  .simp[E2,e] at h
  simp only[E2,if_neg e] at h;exact⟨e,h⟩
 have hne2:∀l bl cl,l≠o->E.r l=ς (bl,cl)->bl≠b:=λl bl cl hlo hl e=>hlo (ok.inj l o _ _ _ (e▸hl) hr)
 have hFb:∀j,E.F j->j<w.heap.size/\j≠b:=λj hj=>⟨ok.fb j hj,λe=>hF (e▸hj)⟩
 have hHb:∀g' j,E.H g' j->j<w.heap.size/\j≠b:=λg' j hj=>by
  cases g'
  .exact hFb j hj
  exact hFb j (ok.gf j hj)
 have kH:∀(g':Bool) (j:Nat),E.H g' j->w'.heap[j]?=w.heap[j]?:=λg' j hj=>hsame j (hHb g' j hj).1 (hHb g' j hj).2
 have kI:∀(g':Bool) (j:Nat),E.H g' j->E2.H g' j:=λg' j hj=>by cases g'<;>exact .inl hj
 have hsf:∀j,j<w.heap.size->(∀l c,E.r l≠ς (j,c))->j≠bn/\w'.heap[j]?=w.heap[j]?:=λj hj hl=>by
  have hjb:j≠b:=λe=>hl o k (e▸hr)
  exact⟨by rcases hbn with rfl|rfl<;>omega,hsame j hj hjb⟩
 refine⟨_,E2,rfl,⟨?_,?_,?_,λl bl cl hl=>?_,λl l' bl cl cl' hl hl'=>ok.inj l l' bl cl cl' (hr2 l _ hl).2 (hr2 l' _ hl').2,by rw[r3.os];exact ok.os,by rw[r3.tape];exact ok.tape,by rw[r3.output];exact ok.output,Y9 ok.size r3.size,λj hj hW=>?_,λl z hv hl=>ok.pin l z hv (hr2 l z hl).2,?_,?_,⟨λl j h=>?_,ok.sf.tt,λj h=>?_,λj h=>?_,ok.sf.ze⟩⟩,
  ⟨λl z hl hlr=>?_,λ_ h=>.inl h,λ_ h=>.inl h,?_,λj hj _ hkl=>hsame j hj (λe=>hkl o k rfl (e▸hr)),(λ_ _ _ _ h=>by cases h),λl bl cl hl hlr=>?_,rfl,rfl,rfl⟩,?_,(λ_ _ h=>by cases h),(λ_ _ h=>by cases h),λl z hl=>.inl (hr2 l z hl).2⟩
 .rintro j (h|rfl)
  .exact Yr (ok.fb j h) r3.size
  exact hbig
 .rintro j (h|h)
  .exact .inl (ok.gf j h)
  exact .inr h.2
 .rintro j (h|h)
  .exact ok.gn j h
  exact .inl (h.2▸hbn0)
 .obtain⟨h3,h4⟩:=ok.rb l bl cl (hr2 l _ hl).2
  exact⟨Yr h3 r3.size,h4⟩
 .rw[hsame j (Yr hj ok.size) oaa];exact ok.block j hj hW
 .rintro j (h|rfl)
  .exact ok.ff j h
  exact .inr hbn0
 .rintro j (h|rfl) hj'
  .exact(ok.gc j h hj').of_eq (hsame j (hFb j h).1 (hFb j h).2)
  exact .mk hhn
 .obtain⟨⟨h3,h4⟩,h5,h6,h7⟩:=ok.sf.tb l j h
  obtain⟨h8,h9⟩:=hsf j h3 h6
  exact⟨⟨Yr h3 r3.size,h4⟩,λhf=>hf.elim h5 h8,λl c hl=>h6 l c (hr2 l _ hl).2,h7.of_eq h9⟩
 .obtain⟨⟨h3,h4,h4'⟩,h5,h6,h7⟩:=ok.sf.zc j h
  obtain⟨h8,h9⟩:=hsf j h4 h6
  exact⟨⟨h3,Yr h4 r3.size,h4'⟩,λhf=>hf.elim h5 h8,λl c hl=>h6 l c (hr2 l _ hl).2,h7.of_eq h9⟩
 .obtain⟨⟨h3,h4,h4'⟩,h5,h6,h7⟩:=ok.sf.zc j h
  exact(ok.sf.zs j h).trans (.of_eq (hsf j h4 h6).2)
 .simp only[E2]
  rw[if_neg (λe=>hl (by rw[e]))];exact hlr
 .rintro j (h|rfl)
  .exact .inl h
  rcases hbn with rfl|rfl
  .exact .inr (.inr λl c hl hlr=>hl (by rw[ok.inj l o _ _ _ hlr hr]))
  exact .inr (.inl (Yj _))
 .cases hl;rw[hr] at hlr;cases hlr;exact hF
 have hl:(els.drop off++ys).length=n+ys.length:=by simp;omega
 refine⟨A',cc',by rw[hl],by omega,?_⟩
 rcases hA' with h0|rfl
 .exact .inl (YD oaa)
 refine .inr ⟨bn,p,rfl,?_,?_⟩
 .cases hg:(g&&gy)
  .exact .inr rfl
  exact .inr ⟨hg,rfl⟩
 rw[ew]
 refine lO λj xd hj=>?_
 rw[Zb] at hj
 have hdl:(els.drop off).length=n:=by simp;omega
 have hfl:(els.drop off).flatten.length=n*sz:=by rw[eX (λe he=>hes e (List.mem_of_mem_drop he)),hdl]
 have hmul:off*sz+n*sz<=arr.size:=by rw[ha,<-Zt];exact YI _ oaa
 have hol:((arr.toList.drop (off*sz)).take (n*sz)).length=n*sz:=by simp;omega
 by_cases hjn:j<n*sz
 .rw[Yt oaa] at hj
  obtain⟨u,u1,u2⟩:=lc (ew.1 (sJ hrd hes off)) hj
  rw[Yl,d7 hh] at u1
  refine⟨u,?_,cm (kH _) (kI _) _ _ (mj ok u2 (by simp_all))⟩
  rw[d7 hhn]
  refine hcur j u ?_
  rw[Yt oaa,YK,if_pos hjn,YL]
  simpa using u1
 rw[Ys oaa,hfl] at hj
 obtain⟨u,u1,u2⟩:=n3 _ _ hj
 refine⟨u,?_,cm (kH _) (kI _) _ _ (mj ok u2 (by simp))⟩
 rw[d7 hhn]
 refine hcur j u ?_
 rw[Ys oaa,hol]
 exact u1
theorem JQ{t by_:Nat}{g2:Bool}{o:Nat}{l:Int}{lo:Operand}[ht:dB P t e sz by_](h0:0<=l)(h2:l<=n):
 AWN P ⟨ς d,.slice t x (ς lo) ξ ξ,ty,ps,af,gd⟩ [(x,.v (.c (.s o sz off n))),(lo,.v (.c (.d g2 (.i .i64 l))))] [] (.v (.c (.s o sz (off+l.toNat) (n-l.toNat)))) []:=
 cd λE ac w hne hob=>by
  have k1:=hne x _ (.head _)
  have k3:=gz (hne lo _ (.tail _ (.head _)))
  obtain⟨A,c,b,k,hr,hu,hnc,hoc,hA⟩:=k1
  obtain⟨i,z,hi1,hi2,_⟩:=ht.i
  obtain⟨he,hu'⟩:=we ht.u
  refine⟨sliced A l.toNat n c sz,?_,_,_,b,k,hr,rfl,by omega,by omega,?_⟩
  .simp[execOp,hu,k3,run_sliceAt_slice w t _ _ _ _ hu',run_slice_l w t A n c hu' .i64 l h0 oaa,he,eA hi1,hi2]
  by_cases hc:c=l.toNat
  .left;omega
  right
  obtain rfl:=hA.resolve_left oaa
  rw[if_neg hc]
  simp[Addr.add,Zt]
end
theorem VG{xs:List α}{a:α}(h:ix xs i=ς a):0<=i/\xs[i.toNat]?=ς a:=by
 unfold ix at h
 cases hb:leB 0 i with
 |false=>simp_all
 |true=>simp_all [leB]
theorem Lt{ys:List α}{a:α}(h:ix (ys.drop off) i=ς a):ix ys ((off+i.toNat:Nat):Int)=ς a:=by
 obtain⟨h0,h1⟩:=VG h
 rw[YL] at h1
 unfold ix
 rw[show leB 0 ((off+i.toNat:Nat):Int)=ζ by simp only[leB,decide_eq_true_eq];omega,cond_true,Int.toNat_natCast]
 exact h1
section
variable{P:Program}{N:Nat}{d:Tmp}{ty:TypeId}{ps:String}{af:Array Edge}{gd:Option (Nat×Bool)}{x y:Operand}{sl:Lab}{ob:Laa}{nx:Nat}{α:Type}{enc:α->List D}
theorem xsT{by_:Nat}{kd:IntKind}{o:Nat}{ys:List α}{a:α}[dB P t e sz by_](H:ix (ys.drop off) i=ς a)(hn:ys.length=n)(hx:opT sl x= .v (.c (.s o sz off (n-off))))(hy:opT sl y= .v (.c (.d g (.i kd i))))(hN:nlt d N=ζ):
 NS0 P N ⟨ς d,.indexAddr t x y,ty,ps,af,gd⟩ sl ob nx d (.v (.c (.e o sz (((off+i.toNat:Nat):Int)).toNat 0))) ⟨d,[(x,.v (.c (.s o sz off (n-off)))),(y,.v (.c (.d g (.i kd i))))],[],.v (.c (.e o sz (off+i.toNat) 0)),[]⟩:=by
 obtain⟨h0,h1⟩:=VG H
 have h2:=(Yc.1 h1).1
 rw[ZG] at h2
 exact xs hx hy hN h0 oaa
theorem cslS{t by_:Nat}{g2:Bool}{o:Nat}{ys:List α}{l:Int}{lo:Operand}[ht:dB P t e sz by_](H:fa (ys.drop off) l (ys.drop off).length=ζ)(hn:ys.length=n)(hx:opT sl x= .v (.c (.s o sz off (n-off))))(hl:opT sl lo= .v (.c (.d g2 (.i .i64 l))))(hN:nlt d N=ζ):
 NS0 P N ⟨ς d,.slice t x (ς lo) ξ ξ,ty,ps,af,gd⟩ sl ob nx d (.v (.c (.s o sz (off+l.toNat) (n-(off+l.toNat))))) ⟨d,[(x,.v (.c (.s o sz off (n-off)))),(lo,.v (.c (.d g2 (.i .i64 l))))],[],.v (.c (.s o sz (off+l.toNat) (n-(off+l.toNat)))),[]⟩:=by
 simp only[fa,decide_eq_true_eq,ZG] at H
 have h:=JQ (P:=P) (d:=d) (ty:=ty) (ps:=ps) (af:=af) (gd:=gd) (x:=x) (t:=t) (o:=o) (off:=off) (n:=n-off) (l:=l) (g2:=g2) (lo:=lo) oaa oaa
 rw[Nat.sub_sub] at h
 exact dh (st:=⟨sl,ob,nx⟩) h rfl hN ⟨hx,hl,θ⟩ trivial rfl
theorem apxS{by_ o:Nat}{ys zs:List α}{c:C}(ls:List Nat)[dB P t e sz by_](H:cN by_ (ys.drop off++zs).length=ζ)(hzd:zs.map enc=zd:=by exact rfl)(henc:∀a,(enc a).length=sz:=by exact λ_=>rfl)(hp:nM ob ls=ς nob:=by exact rfl)(hd:nlt d N=true:=by exact rfl)(hx:opT sl x= .v (.c (.s o sz off (n-off))):=by exact rfl)(hy:opT sl y= .v (.c c):=by exact rfl)(hn:ys.length=n:=by first|rfl|simp)(hs:Src nob c zd gy:=by first|exact .d|exact .nil|exact .w rfl (by first|rfl|exact lm _|simp)|exact .wn rfl (by first|rfl|exact lm _|simp))(ho:go nob o=ς (.row e sz (ys.map enc) g ζ):=by exact rfl)(hg:(g&&gy)=gg:=by exact rfl)(hrv:rsv o=false:=by exact rfl):
 NX P N ⟨ς d,.call ⟨.builtin .append,#[x,y],#[t,t]⟩,ty,ps,af,gd⟩ ⟨sl,ob,nx⟩ ⟨(d,.v (.c (.d gg (.l ((ys.drop off++zs).map enc)))))::sl,ob,nx⟩
  ⟨⟨d,[(x,.v (.c (.s o sz off (n-off)))),(y,.v (.c c))],nob,.v (.c (.d gg (.l ((ys.drop off++zs).map enc)))),[]⟩,[],ς o⟩:=by
 subst hzd;subst hg;subst hn
 have hl:(ys.drop off++zs).length=ys.length-off+zs.length:=by simp
 simp only[cN,decide_eq_true_eq,hl] at H
 have:=HN (P:=P) (d:=d) (ty:=ty) (ps:=ps) (af:=af) (gd:=gd) (x:=x) (y:=y) (t:=t) (e:=e) (sz:=sz) (by_:=by_) (n:=ys.length-off) (off:=off) hrv ho hs (by simp) (B3 henc zs) (by simp_all) (by simp_all)
 rw[<-Zh,<-Y8] at this
 exact⟨this,.inl ⟨rfl,cO hd⟩,⟨hx,hy,θ⟩,oE hp,rfl,rfl⟩
end
theorem Ji{o:Oper}{needs:List (Operand×T)}{d:Tmp}(h:AWK P o needs nob out [] [] (ς k))(hd:o.dst=ς d)(hN:d<N)(hn:Lk st.sl needs)(hb:Lo st.ob nob)(hk:yv [k] st.sl st.ob=ς (sl',ob')):AWO P N o st ⟨(d,out)::sl',ob',st.nx⟩:=by
 intro cx E a w hR
 refine Oper.wp_mono ?_ (h cx E a w hR.ok (λx t hm=>by have:=hR.op x;rwa [Lk.mem hn x t hm] at this) (λl ob hm=>hR.obs l ob (Lo.mem hb l ob hm)) (λl ob hm=>by cases hm))
 rintro a' w' ⟨v,E',rfl,ok',ext,hv,_,_,hdom⟩
 obtain⟨i1,i2⟩:=BX hk
 refine⟨E',ok',λl x hl=>(hdom l x hl).elim (hR.dom l x) (λ⟨_,h⟩=>by cases h),λl ob hl=>?_,λj=>?_,?_,?_,λl b h=>by rw[ext.T] at h;exact hR.td l b h⟩
 .obtain⟨e1,e2⟩:=i2 l ob hl
  exact Cf hR.ok ext (λ_ h=>by cases h) (λe=>(e2 k (by simp)).1 (by injection e with e;exact e.symm)) (λd' hd'=>by cases hd';exact(e2 k (by simp)).2) (hR.obs l ob e1)
 .rw[hd,gu (by rw[hR.size];exact hN)]
  by_cases hj:d=j
  .subst hj;rw[cW,if_pos rfl];exact hv
  rw[cy _ _ hj,if_neg hj]
  rcases i1 j with e|⟨e,e2⟩
  .rw[e];trivial
  rw[e];exact yf hR.ok ext (λo' ho=>by cases ho;exact e2 k (by simp)) (hR.sl j)
 .rw[hd];exact hR.dfr
 rw[hd];simpa [Act.put] using hR.size
section
variable{P:Program}{N:Nat}{d:Tmp}{ty:TypeId}{ps:String}{af:Array Edge}{gd:Option (Nat×Bool)}{x y:Operand}{sl sl':Lab}{ob ob':Laa}{nx:Nat}{α:Type}{enc:α->List D}
theorem apS{by_ o:Nat}{ys zs:List α}{c:C}(ls:List Nat)[dB P t e sz by_](H:cN by_ (ys.drop off++zs).length=ζ)(hzd:zs.map enc=zd:=by exact rfl)(henc:∀a,(enc a).length=sz:=by exact λ_=>rfl)(hp:nM ob ls=ς nob:=by exact rfl)(hd:nlt d N=true:=by exact rfl)(hx:opT sl x= .v (.c (.s o sz off (n-off))):=by exact rfl)(hy:opT sl y= .v (.c c):=by exact rfl)(hn:ys.length=n:=by first|rfl|simp)(hs:Src nob c zd gy:=by first|exact .d|exact .nil|exact .w rfl (by first|rfl|exact lm _|simp)|exact .wn rfl (by first|rfl|exact lm _|simp))(ho:go nob o=ς (.row e sz (ys.map enc) g ζ):=by exact rfl)(hg:(g&&gy)=gg:=by exact rfl)(hrv:rsv o=false:=by exact rfl)(hk:yv [o] sl ob=ς (sl',ob'):=by exact rfl):
 AWO P N ⟨ς d,.call ⟨.builtin .append,#[x,y],#[t,t]⟩,ty,ps,af,gd⟩ ⟨sl,ob,nx⟩ ⟨(d,.v (.c (.d gg (.l ((ys.drop off++zs).map enc)))))::sl',ob',nx⟩:=by
 obtain⟨h1,h2,h3,h4,h5,h6⟩:=apxS (P:=P) (N:=N) (t:=t) (x:=x) (y:=y) (enc:=enc) (d:=d) (ty:=ty) (ps:=ps) (af:=af) (gd:=gd) (sl:=sl) (ob:=ob) (nx:=nx) ls H hzd henc hp hd hx hy hn hs ho hg hrv
 exact Ji h1 rfl (cO hd) h3 h4 hk
end
def rpC:Nat->C->List C->Option (List C)
 |0,x,_::cs=>ς (x::cs)
 |j+1,x,c::cs=>match rpC j x cs with
  |some r=>ς (c::r)
  |none=>ξ
 |_,_,_=>ξ
theorem RF{E:Env}{w:World}{x y:C}(hxy:∀u,cvC E w y u->cvC E w x u):∀{j:Nat} {cs cs':List C} {us:Lae},cs[j]?=ς y->rpC j x cs=ς cs'->CV E w cs us->CV E w cs' us
 |0,c::cs,cs',us,h,h1,h2=>by
  simp at h;subst h
  simp[rpC] at h1;subst h1
  cases us with
  |nil=>exact h2.elim
  |cons u us=>exact⟨hxy u h2.1,h2.2⟩
 |j+1,c::cs,cs',us,h,h1,h2=>by
  simp only[rpC] at h1
  split at h1
  .rename_i r hr
   cases h1
   cases us with
   |nil=>exact h2.elim
   |cons u us=>exact⟨h2.1,RF hxy (by simpa using h) hr h2.2⟩
  cases h1
 |0,[],_,_,h,_,_=>by simp at h
 |_+1,[],_,_,h,_,_=>by simp at h
theorem CY{o:Nat}{vt:TypeId}{ob:Laa}{x y:C}(ho:go ob o=ς (.var vt cs))(hc:cs[j]?=ς y)(hj:rpC j x cs=ς cs')(h:∀(cx:Cx) (E:Env) (a:Act) (w:World),Rel N cx E ⟨sl,ob,nx⟩ a w->∀u,cvC E w y u->cvC E w x u):cM N ⟨sl,ob,nx⟩ ⟨sl,(o,.var vt cs')::ob,nx⟩:=by
 intro cx E a w hR
 refine⟨E,hR.ok,hR.dom,λl x hl=>?_,hR.sl,hR.dfr,hR.size,hR.td⟩
 by_cases e:o=l
 .subst e
  rw[b9] at hl;cases hl
  obtain⟨b,c,arr,h1,h2,h3,h4⟩:=hR.obs o _ ho
  exact⟨b,c,arr,h1,h2,RF (h cx E a w hR) hc hj h3,h4⟩
 rw[bG _ _ e] at hl;exact hR.obs l x hl
theorem SY{o:Nat}{vt:TypeId}{ob:Laa}{y:C}(ho:go ob o=ς (.var vt cs):=by exact rfl)(hc:cs[j]?=ς y:=by exact rfl)(hj:rpC j .any cs=ς cs':=by exact rfl):cM N ⟨sl,ob,nx⟩ ⟨sl,(o,.var vt cs')::ob,nx⟩:=CY ho hc hj λ_ _ _ _ _ _ _=>trivial
theorem C0{o:Nat}{vt rt:TypeId}{els:Lad}{ob:Laa}(q':go ob q=ς (.row rt sz els g ζ))(ho:go ob o=ς (.var vt cs):=by exact rfl)(hc:cs[j]?=ς (.w q n):=by exact rfl)(hn:els.length=n:=by first|rfl|simp)(hj:rpC j (.s q sz 0 (n-0)) cs=ς cs':=by exact rfl):cM N ⟨sl,ob,nx⟩ ⟨sl,(o,.var vt cs')::ob,nx⟩:=
 CY ho hc hj λcx E a w hR u hu=>by
  obtain⟨b,c,hr,rfl⟩:=hu
  obtain⟨b',c',arr,hr',hh,ha,hlc,_⟩:=hR.obs q _ q'
  rw[hr] at hr';cases hr'
  exact⟨_,_,b,c,hr,rfl,by omega,by omega,.inr (by simp)⟩
theorem CZ{o:Nat}{vt rt:TypeId}{enc:α->List D}{ys:List α}{ob:Laa}(q':go ob q=ς (.row rt sz (ys.map enc) g η))(ho:go ob o=ς (.var vt cs):=by exact rfl)(hc:cs[j]?=ς (.s q sz off (n-off)):=by exact rfl)(hn:ys.length=n:=by first|rfl|simp)(hj:rpC j (.d g (.l ((ys.drop off).map enc))) cs=ς cs':=by exact rfl):cM N ⟨sl,ob,nx⟩ ⟨sl,(o,.var vt cs')::ob,nx⟩:=
 CY ho hc hj λcx E a w hR u hu=>by
  obtain⟨A,c,b,k,hr,rfl,hlc,hok,hA⟩:=hu
  obtain⟨b',c',arr,hr',hh,ha,hl,hmx,hes,hrd,_,hm⟩:=hR.obs q _ q'
  rw[hr] at hr';cases hr'
  subst hn
  have hll:((ys.drop off).map enc).length=ys.length-off:=by simp
  refine⟨A,c,by rw[hll],by rw[hll];exact hlc,?_⟩
  rcases hA with h0|h0
  .exact .inl (YD oaa)
  refine .inr ⟨b,off*sz,h0,?_,?_⟩
  .obtain⟨m1,m2⟩:=hm rfl
   cases g
   .exact m1
   exact m2 rfl
  have:=sJ hrd hes off
  rw[Zh];simpa using this
def rdC(R:Laa):C->Option (C×Lac)
 | .d g x=>ς (.d g x,[])
 | .nil=>ς (.nil,[])
 | .any=>ς (.any,[])
 | .fn f=>ς (.fn f,[])
 | .p o k=>match go R o with
  |some _=>ξ
  |none=>ς (.p o k,[])
 | .wn l n=>match go R l with
  |some (.rown _ _ els g)=>ς (.d η (.l els),[(els.length,n)])
  |some _=>ξ
  |none=>ς (.wn l n,[])
 |_=>ξ
def Rq(R:Laa):List C->Option (List C×Lac)
 |[]=>ς ([],[])
 |c::cs=>match rdC R c,Rq R cs with
  |some (x,e),ς (xs,es)=>ς (x::xs,e++es)
  |_,_=>ξ
def rdT(R:Laa):T->Option (T×Lac)
 | .v (.c c)=>match rdC R c with
  |some (x,e)=>ς (.v (.c x),e)
  |none=>ξ
 | .v (.agg cs)=>match Rq R cs with
  |some (x,e)=>ς (.v (.agg x),e)
  |none=>ξ
 |_=>ξ
def Rr(R:Laa):List T->Option (List T×Lac)
 |[]=>ς ([],[])
 |c::cs=>match rdT R c,Rr R cs with
  |some (x,e),ς (xs,es)=>ς (x::xs,e++es)
  |_,_=>ξ
def inC(R:Laa):C->Bool
 | .d _ _| .nil| .any| .fn _=>ζ
 | .wn l _=>(go R l).isSome
 |_=>η
def Qn(R:Laa):Laa->Bool
 |[]=>ζ
 |(l,.var _ cs)::r=>(rsv l&&cs.all (inC R))&&Qn R r
 |(l,.rown _ _ _ _)::r=>rsv l&&Qn R r
 |_=>η
def ouC(R:Laa):C->Bool
 | .d ζ _=>ζ
 | .d η (.l _)=>η
 | .d η _=>ζ
 | .nil| .any| .fn _=>ζ
 | .wn l _| .w l _| .p l _=>(go R l).isNone
 |_=>η
def ouV(R:Laa):V->Bool
 | .c c=>ouC R c
 | .agg cs=>cs.all (ouC R)
def ouT(R:Laa):T->Bool
 | .v v=>ouV R v
 | .tup vs=>vs.all (ouV R)
 | .any=>ζ
def ouO(R:Laa):Laa->Bool
 |[]=>ζ
 |(l,.var _ cs)::r=>((go R l).isNone&&cs.all (ouC R))&&ouO R r
 |(l,.row _ _ _ g m)::r=>((go R l).isNone&&(g&&m))&&ouO R r
 |(l,.rown _ _ _ g)::r=>((go R l).isNone&&g)&&ouO R r
 |_=>η
def xsO(R:Laa):Laa->Bool
 |[]=>ζ
 |(l,.var _ cs)::r=>((go R l).isNone&&cs.all λc=>match c with
  | .d _ _| .nil| .any| .fn _=>ζ
  | .wn l _| .w l _| .p l _=>(go R l).isNone
  |_=>η)&&xsO R r
 |(l,.row _ _ _ _ m)::r=>((go R l).isNone&&m)&&xsO R r
 |(l,.rown _ _ _ _)::r=>(go R l).isNone&&xsO R r
 |_=>η
theorem Fq{r:Laa}(h:go ((k,x)::r) l=ς y):(k=l/\x=y)\/(k≠l/\go r l=ς y):=by
 by_cases e:k=l
 .subst e;rw[b9] at h;cases h;exact .inl ⟨rfl,rfl⟩
 rw[bG _ _ e] at h;exact .inr ⟨e,h⟩
theorem AK{R:Laa}{l:Nat}{x:Ob}:∀{r:Laa},Qn R r=ζ->go r l=ς x->rsv l=ζ/\((∃t cs,x= .var t cs/\cs.all (inC R)=ζ)\/∃t sz els g,x= .rown t sz els g)
 |(k,y)::r,h,hg=>by
  cases y<;>simp only[Qn,hV] at h<;>try (cases h;done)
  all_goals rcases Fq hg with⟨rfl,rfl⟩|⟨_,hg⟩
  .exact⟨h.1.1,.inl ⟨_,_,rfl,h.1.2⟩⟩
  .exact AK h.2 hg
  .exact⟨h.1,.inr ⟨_,_,_,_,rfl⟩⟩
  exact AK h.2 hg
theorem FZ{R:Laa}{l:Nat}{x:Ob}:∀{r:Laa},ouO R r=ζ->go r l=ς x->go R l=ξ/\((∃t cs,x= .var t cs/\cs.all (ouC R)=ζ)\/(∃t sz els,x= .row t sz els ζ ζ)\/∃t sz els,x= .rown t sz els ζ)
 |(k,y)::r,h,hg=>by
  cases y<;>simp only[ouO,hV] at h<;>try (cases h;done)
  all_goals rcases Fq hg with⟨rfl,rfl⟩|⟨_,hg⟩
  .exact⟨by simpa using h.1.1,.inl ⟨_,_,rfl,h.1.2⟩⟩
  .exact FZ h.2 hg
  .obtain⟨⟨h1,rfl,rfl⟩,_⟩:=h
   exact⟨by simpa using h1,.inr (.inl ⟨_,_,_,rfl⟩)⟩
  .exact FZ h.2 hg
  .obtain⟨⟨h1,rfl⟩,_⟩:=h
   exact⟨by simpa using h1,.inr (.inr ⟨_,_,_,rfl⟩)⟩
  exact FZ h.2 hg
def xsC(R:Laa):C->Bool
 | .d _ _| .nil| .any| .fn _=>ζ
 | .wn l _| .w l _| .p l _=>(go R l).isNone
 |_=>η
theorem C4{R:Laa}{l:Nat}{x:Ob}:∀{r:Laa},xsO R r=ζ->go r l=ς x->go R l=ξ/\((∃t cs,x= .var t cs/\cs.all (xsC R)=ζ)\/(∃t sz els g,x= .row t sz els g ζ)\/∃t sz els g,x= .rown t sz els g)
 |(k,y)::r,h,hg=>by
  cases y<;>simp only[xsO,hV] at h<;>try (cases h;done)
  all_goals rcases Fq hg with⟨rfl,rfl⟩|⟨_,hg⟩
  .exact⟨by simpa using h.1.1,.inl ⟨_,_,rfl,h.1.2⟩⟩
  .exact C4 h.2 hg
  .obtain⟨⟨h1,rfl⟩,_⟩:=h
   exact⟨by simpa using h1,.inr (.inl ⟨_,_,_,_,rfl⟩)⟩
  .exact C4 h.2 hg
  .exact⟨by simpa using h.1,.inr (.inr ⟨_,_,_,_,rfl⟩)⟩
  exact C4 h.2 hg
theorem Hw{A B:Laa}(h:go A l=ς x):go (A++B) l=ς x:=by
 induction A with
 |nil=>cases h
 |cons p r ih=>
  obtain⟨k,v⟩:=p
  by_cases e:k=l
  .subst e;rw[b9] at h;rw[Yv,b9];exact h
  rw[bG _ _ e] at h;rw[Yv,bG _ _ e];exact ih h
theorem Hx{A B:Laa}(h:go A l=ξ):go (A++B) l=go B l:=by
 induction A with
 |nil=>rfl
 |cons p r ih=>
  obtain⟨k,v⟩:=p
  by_cases e:k=l
  .subst e;rw[b9] at h;cases h
  rw[bG _ _ e] at h;rw[Yv,bG _ _ e];exact ih h
theorem Kk{w':World}{F F':Nat->Prop}{x:D}(hx:∀xs,x≠.l xs)(h:rdD w F x u):rdD w' F' x u:=by
 cases x<;>simp only[rdD] at h ⊢<;>try exact h
 exact absurd rfl (hx _)
section
variable{E E0:Env}{w:World}{R:Laa}
theorem Rp(hr:∀l,go R l=ξ->E0.r l=E.r l/\(E0.n l↔E.n l))(hH:∀g b,E.H g b->E0.H g b)(hg:∀b,E.G b->E.F b)(hR:∀l x,go R l=ς x->cB E w l x)(hF:∀l x b c,go R l=ς x->E.r l=ς (b,c)->E0.F b){c c':C}{e:Lac}(h:rdC R c=ς (c',e))(he:Eqs e)(hc:cvC E w c u):cvC E0 w c' u:=by
 cases c<;>simp only[rdC] at h<;>try (cases h;done)
 case d g x=>cases h;exact cm (λ_ _=>rfl) (hH g) _ _ hc
 case p o k=>
  split at h
  .cases h
  rename_i h1;cases h
  obtain⟨b,c,h2,h3⟩:=hc
  exact⟨b,c,(hr _ h1).1.trans h2,h3⟩
 case fn f=>cases h;exact hc
 case nil=>cases h;exact hc
 case any=>cases h;trivial
 case wn l n=>
  split at h
  .rename_i t sz els g h1
   simp at h;obtain⟨rfl,rfl⟩:=h
   have hn:els.length=n:=he.1
   rcases hc with⟨h2,rfl,rfl⟩|⟨h2,b,c,h3,rfl⟩
   .obtain rfl:=YD hn
    exact⟨ξ,0,rfl,Yj _,.inl rfl⟩
   rcases hR _ _ h1 with⟨h4,_⟩|⟨_,b',c',arr,h5,h6,h7,h8,h9,h10,h11,h12⟩
   .exact absurd h4 h2
   rw[h3] at h5;cases h5
   have hHF:∀k,E.H g k->E0.H η k:=λk hk=>hH η k (by cases g;exact hk;exact hg k hk)
   exact⟨ς ⟨b,0,ξ⟩,c,by rw[hn],h8,.inr ⟨b,0,rfl,hF _ _ _ _ h1 h3,cf (λ_ _=>rfl) hHF rfl _ _ h11⟩⟩
  .cases h
  rename_i h1;cases h
  rcases hc with⟨h2,h3⟩|⟨h2,b,c,h3,h4⟩
  .exact .inl ⟨(hr _ h1).2.2 h2,h3⟩
  exact .inr ⟨λk=>h2 ((hr _ h1).2.1 k),b,c,(hr _ h1).1.trans h3,h4⟩
theorem Md(hr:∀l,go R l=ξ->E0.r l=E.r l/\(E0.n l↔E.n l))(hH:∀g b,E.H g b->E0.H g b)(hg:∀b,E.G b->E.F b)(hR:∀l x,go R l=ς x->cB E w l x)(hF:∀l x b c,go R l=ς x->E.r l=ς (b,c)->E0.F b):
 ∀{cs cs':List C} {e:Lac} {us:Lae},Rq R cs=ς (cs',e)->Eqs e->CV E w cs us->CV E0 w cs' us
 |[],cs',e,us,h,he,hc=>by
  simp[Rq] at h;obtain⟨rfl,rfl⟩:=h
  cases us with
  |nil=>trivial
  |cons _ _=>exact hc.elim
 |c::cs,cs',e,us,h,he,hc=>by
  cases us with
  |nil=>exact hc.elim
  |cons u us=>
   simp only[Rq] at h
   split at h
   .rename_i h1 h2;cases h
    obtain⟨k1,k2⟩:=dO he
    exact⟨Rp hr hH hg hR hF h1 k1 hc.1,Md hr hH hg hR hF h2 k2 hc.2⟩
   cases h
theorem Mg(hr:∀l,go R l=ξ->E0.r l=E.r l/\(E0.n l↔E.n l))(hH:∀g b,E.H g b->E0.H g b)(hg:∀b,E.G b->E.F b)(hR:∀l x,go R l=ς x->cB E w l x)(hF:∀l x b c,go R l=ς x->E.r l=ς (b,c)->E0.F b):
 ∀{ts ts':List T} {e:Lac} {us:Lae},Rr R ts=ς (ts',e)->Eqs e->TV E w ts us->TV E0 w ts' us
 |[],ts',e,us,h,he,hc=>by
  simp[Rr] at h;obtain⟨rfl,rfl⟩:=h
  cases us with
  |nil=>trivial
  |cons _ _=>exact hc.elim
 |t::ts,ts',e,us,h,he,hc=>by
  cases us with
  |nil=>exact hc.elim
  |cons u us=>
   simp only[Rr] at h
   split at h
   .rename_i h1 h2;cases h
    obtain⟨k1,k2⟩:=dO he
    refine⟨?_,Mg hr hH hg hR hF h2 k2 hc.2⟩
    have h0:=hc.1
    unfold rdT at h1
    split at h1
    .split at h1
     .rename_i h3;cases h1;exact Rp hr hH hg hR hF h3 k1 h0
     cases h1
    .split at h1
     .rename_i h3;cases h1
      obtain⟨arr,q1,q2⟩:=h0
      exact⟨arr,q1,Md hr hH hg hR hF h3 k1 q2⟩
     cases h1
    cases h1
   cases h
end
theorem Re{R:Laa}(hr:∀l,go R l=ξ->E'.r l=E.r l/\(E'.n l↔E.n l))(hG:∀b,E.G b->E'.G b){c:C}(h:ouC R c=ζ)(hc:cvC E w c u):cvC E' w c u:=by
 cases c<;>simp only[ouC] at h<;>try (cases h;done)
 case d g x=>
  cases g
  .refine Kk (F:=E.H η) (λxs e=>?_) hc
   subst e;simp at h
  exact cm (λ_ _=>rfl) hG _ _ hc
 case w o n=>obtain⟨b,c,h1,h2⟩:=hc;exact⟨b,c,(hr o (by simpa using h)).1.trans h1,h2⟩
 case p o n=>obtain⟨b,c,h1,h2⟩:=hc;exact⟨b,c,(hr o (by simpa using h)).1.trans h1,h2⟩
 case fn f=>exact hc
 case nil=>exact hc
 case any=>trivial
 case wn o n=>
  have k:=hr o (by simpa using h)
  rcases hc with⟨h2,h3⟩|⟨h2,b,c,h3,h4⟩
  .exact .inl ⟨k.2.2 h2,h3⟩
  exact .inr ⟨λq=>h2 (k.2.1 q),b,c,k.1.trans h3,h4⟩
theorem FY{E E':Env}{w:World}{R:Laa}(hr:∀l,go R l=ξ->E'.r l=E.r l/\(E'.n l↔E.n l))(hG:∀b,E.G b->E'.G b):∀{cs:List C} {us:Lae},cs.all (ouC R)=ζ->CV E w cs us->CV E' w cs us
 |[],[],_,_=>trivial
 |c::cs,u::us,h,hc=>by
  simp only[Yy,hV] at h
  exact⟨Re hr hG h.1 hc.1,FY hr hG h.2 hc.2⟩
 |[],_::_,_,h=>h.elim
 |_::_,[],_,h=>h.elim
theorem Rg{R:Laa}(hr:∀l,go R l=ξ->E'.r l=E.r l/\(E'.n l↔E.n l))(hG:∀b,E.G b->E'.G b){v:V}(h:ouV R v=ζ)(hc:cvV E w v u):cvV E' w v u:=by
 cases v with
 |c c=>exact Re hr hG h hc
 |agg cs=>obtain⟨arr,h1,h2⟩:=hc;exact⟨arr,h1,FY hr hG h h2⟩
theorem L1{E E':Env}{w:World}{R:Laa}(hr:∀l,go R l=ξ->E'.r l=E.r l/\(E'.n l↔E.n l))(hG:∀b,E.G b->E'.G b):∀{vs:List V} {us:Lae},vs.all (ouV R)=ζ->VV E w vs us->VV E' w vs us
 |[],[],_,_=>trivial
 |c::cs,u::us,h,hc=>by
  simp only[Yy,hV] at h
  exact⟨Rg hr hG h.1 hc.1,L1 hr hG h.2 hc.2⟩
 |[],_::_,_,h=>h.elim
 |_::_,[],_,h=>h.elim
theorem WW{R:Laa}(hr:∀l,go R l=ξ->E'.r l=E.r l/\(E'.n l↔E.n l))(hG:∀b,E.G b->E'.G b){t:T}(h:ouT R t=ζ)(hc:cvT E w t u):cvT E' w t u:=by
 cases t with
 |v v=>exact Rg hr hG h hc
 |tup vs=>obtain⟨arr,h1,h2⟩:=hc;exact⟨arr,h1,L1 hr hG h h2⟩
 |any=>trivial
theorem Rf{R r:Laa}(hr:∀l,go R l=ξ->E'.r l=E.r l/\(E'.n l↔E.n l))(hG:∀b,E.G b->E'.G b)(hF:∀b,E'.F b->E.F b)(h:ouO R r=ζ)(hx:go r l=ς x)(hc:cB E w l x):cB E' w l x:=by
 obtain⟨k1,k2⟩:=FZ h hx
 obtain⟨k3,k4⟩:=hr l k1
 rcases k2 with⟨t,cs,rfl,k5⟩|⟨t,sz,els,rfl⟩|⟨t,sz,els,rfl⟩
 .obtain⟨b,c,arr,h1,h2,h3,h4⟩:=hc
  exact⟨b,c,arr,k3.trans h1,h2,FY hr hG k5 h3,λq=>h4 (hF b q)⟩
 .obtain⟨b,c,arr,h1,h2,h3,h4,h5,h6,h7,h8,h9⟩:=hc
  exact⟨b,c,arr,k3.trans h1,h2,h3,h4,h5,h6,cf (λ_ _=>rfl) hG rfl _ _ h7,λ_ q=>h8 rfl (hF b q),λq=>by cases q⟩
 rcases hc with⟨h0,h1⟩|⟨h0,b,c,arr,h1,h2,h3,h4,h5,h6,h7,h8⟩
 .exact .inl ⟨k4.2 h0,h1⟩
 exact .inr ⟨λq=>h0 (k4.1 q),b,c,arr,k3.trans h1,h2,h3,h4,h5,h6,cf (λ_ _=>rfl) hG rfl _ _ h7,λq=>h8 (hF b q)⟩
theorem X8{R:Laa}(hr:∀l,go R l=ξ->E'.r l=E.r l/\(E'.n l↔E.n l))(hH:∀g b,E.H g b->E'.H g b){c:C}(h:xsC R c=ζ)(hc:cvC E w c u):cvC E' w c u:=by
 cases c<;>simp only[xsC] at h<;>try (cases h;done)
 case d g x=>exact cm (λ_ _=>rfl) (hH g) _ _ hc
 case w o n=>obtain⟨b,c,h1,h2⟩:=hc;exact⟨b,c,(hr o (by simpa using h)).1.trans h1,h2⟩
 case p o n=>obtain⟨b,c,h1,h2⟩:=hc;exact⟨b,c,(hr o (by simpa using h)).1.trans h1,h2⟩
 case fn f=>exact hc
 case nil=>exact hc
 case any=>trivial
 case wn o n=>
  have k:=hr o (by simpa using h)
  rcases hc with⟨h2,h3⟩|⟨h2,b,c,h3,h4⟩
  .exact .inl ⟨k.2.2 h2,h3⟩
  exact .inr ⟨λq=>h2 (k.2.1 q),b,c,k.1.trans h3,h4⟩
theorem MT{E E':Env}{w:World}{R:Laa}(hr:∀l,go R l=ξ->E'.r l=E.r l/\(E'.n l↔E.n l))(hH:∀g b,E.H g b->E'.H g b):∀{cs:List C} {us:Lae},cs.all (xsC R)=ζ->CV E w cs us->CV E' w cs us
 |[],[],_,_=>trivial
 |c::cs,u::us,h,hc=>by
  simp only[Yy,hV] at h
  exact⟨X8 hr hH h.1 hc.1,MT hr hH h.2 hc.2⟩
 |[],_::_,_,h=>h.elim
 |_::_,[],_,h=>h.elim
theorem X9{R r:Laa}(hr:∀l,go R l=ξ->E'.r l=E.r l/\(E'.n l↔E.n l))(hH:∀g b,E.H g b->E'.H g b)(hF:∀l b c,go R l=ξ->E.r l=ς (b,c)->¬E.F b->¬E'.F b)(h:xsO R r=ζ)(hx:go r l=ς x)(hc:cB E w l x):cB E' w l x:=by
 obtain⟨k1,k2⟩:=C4 h hx
 obtain⟨k3,k4⟩:=hr l k1
 rcases k2 with⟨t,cs,rfl,k5⟩|⟨t,sz,els,g,rfl⟩|⟨t,sz,els,g,rfl⟩
 .obtain⟨b,c,arr,h1,h2,h3,h4⟩:=hc
  exact⟨b,c,arr,k3.trans h1,h2,MT hr hH k5 h3,hF l b c k1 h1 h4⟩
 .obtain⟨b,c,arr,h1,h2,h3,h4,h5,h6,h7,h8,h9⟩:=hc
  exact⟨b,c,arr,k3.trans h1,h2,h3,h4,h5,h6,cf (λ_ _=>rfl) (hH g) rfl _ _ h7,λq=>hF l b c k1 h1 (h8 q),λq=>by cases q⟩
 rcases hc with⟨h0,h1⟩|⟨h0,b,c,arr,h1,h2,h3,h4,h5,h6,h7,h8⟩
 .exact .inl ⟨k4.2 h0,h1⟩
 exact .inr ⟨λq=>h0 (k4.1 q),b,c,arr,k3.trans h1,h2,h3,h4,h5,h6,cf (λ_ _=>rfl) (hH g) rfl _ _ h7,hF l b c k1 h1 h8⟩
theorem Wv{w':World}{R:Laa}(hr:∀l x,go R l=ς x->E'.r l=E.r l/\(E'.n l↔E.n l))(hw:∀g b,E.H g b->w'.heap[b]?=w.heap[b]?)(hH:∀g b,E.H g b->E'.H g b){c:C}(h:inC R c=ζ)(hc:cvC E w c u):cvC E' w' c u:=by
 cases c<;>simp only[inC] at h<;>try (cases h;done)
 case d g x=>exact cm (hw g) (hH g) _ _ hc
 case fn f=>exact hc
 case nil=>exact hc
 case any=>trivial
 case wn o n=>
  obtain⟨x,hx⟩:=ZN.1 h
  have k:=hr o x hx
  rcases hc with⟨h2,h3⟩|⟨h2,b,c,h3,h4⟩
  .exact .inl ⟨k.2.2 h2,h3⟩
  exact .inr ⟨λq=>h2 (k.2.1 q),b,c,k.1.trans h3,h4⟩
theorem Ls{E E':Env}{w w':World}{R:Laa}(hr:∀l x,go R l=ς x->E'.r l=E.r l/\(E'.n l↔E.n l))(hw:∀g b,E.H g b->w'.heap[b]?=w.heap[b]?)(hH:∀g b,E.H g b->E'.H g b):∀{cs:List C} {us:Lae},cs.all (inC R)=ζ->CV E w cs us->CV E' w' cs us
 |[],[],_,_=>trivial
 |c::cs,u::us,h,hc=>by
  simp only[Yy,hV] at h
  exact⟨Wv hr hw hH h.1 hc.1,Ls hr hw hH h.2 hc.2⟩
 |[],_::_,_,h=>h.elim
 |_::_,[],_,h=>h.elim
theorem FnV.rd{xs ys:Laa}{args':List T}{e:Lac}(h:FnV P f xs args ys out nw)(R:Laa)(args'':List T)(h0:args''=args':=by exact rfl)(ha:Rr R args'=ς (args,e):=by exact rfl)(he:Eqs e:=by repeat (first|exact θ|refine⟨by first|rfl|exact lm _|simp,?_⟩))(h1:Qn R R=true:=by exact rfl)(h2:xsO R xs=true:=by exact rfl)(h3:ouO R ys=true:=by exact rfl)(h4:ouO R nw=true:=by exact rfl)(h5:ouT R out=true:=by exact rfl):FnV P f (R++xs) args'' (R++ys) out nw:=by
 subst h0
 refine⟨h.enters,λE w vals hI hT hTb hx hA=>?_⟩
 have hRo:∀l x,go R l=ς x->cB E w l x:=λl x hl=>hx l x (Hw hl)
 have hRv:∀l x,go R l=ς x->rsv l=true:=λl x hl=>(AK h1 hl).1
 let isR:Nat->Prop:=λb=>∃l x c,go R l=ς x/\E.r l=ς (b,c)
 let E0:Env:=⟨λo=>if(go R o).isSome then ξ else E.r o,λb=>E.F b\/isR b,E.G,E.T,E.Z,E.n⟩
 have e0:∀l,go R l=ξ->E0.r l=E.r l/\(E0.n l↔E.n l):=λl hl=>⟨by simp[E0,hl],Iff.rfl⟩
 have e1:∀l z,E0.r l=ς z->go R l=ξ/\E.r l=ς z:=λl z hl=>by
  cases hg:go R l with
  |none=>simp[E0,hg] at hl;exact⟨rfl,hl⟩
  |some x=>simp[E0,hg] at hl
 have hH0:∀g b,E.H g b->E0.H g b:=λg b hb=>by
  cases g
  .exact .inl hb
  exact hb
 have hnR:∀b,E.F b->¬isR b:=λb hb ⟨l,x,c,_,hl⟩=>(hI.rb l b c hl).2.2 hb
 have hR0:∀l z b c,go R l=ς z->E.r l=ς (b,c)->∀l' c',E0.r l'≠ς (b,c'):=λl z b c hl hb l' c' hl'=>by
  obtain⟨k1,k2⟩:=e1 l' _ hl'
  rw[hI.inj l' l b c' c k2 hb] at k1
  rw[k1] at hl;cases hl
 have hI0:VIn E0 w:=⟨λb hb=>hb.elim (hI.fb b) (λ⟨l,x,c,_,hl⟩=>(hI.rb l b c hl).1),λb hb=>.inl (hI.gf b hb),λo b c ho=>?_,λo o' b c c' ho ho'=>hI.inj o o' b c c' (e1 o _ ho).2 (e1 o' _ ho').2,hI.T,hI.Z⟩
 rotate_left
 .obtain⟨k1,k2⟩:=e1 o _ ho
  obtain⟨k3,k4,k5⟩:=hI.rb o b c k2
  exact⟨k3,k4,λq=>q.elim k5 (λ⟨l,x,c',hl,hb⟩=>hR0 l x b c' hl hb o c ho)⟩
 refine(h.calls E0 w vals hI0 hT (λk hk o c ho=>hTb k hk o c (e1 o _ ho).2) (λl x hl=>?_) (Mg e0 hH0 hI.gf hRo (λl x b c hl hb=>.inr ⟨l,x,c,hl,hb⟩) ha he hA)).mono ?_
 .obtain⟨k1,_⟩:=C4 h2 hl
  refine X9 e0 hH0 (λl' b c hl' hb hf q=>q.elim hf (λ⟨l2,x2,c2,hl2,hb2⟩=>?_)) h2 hl (hx l x (by rw[Hx k1];exact hl))
  rw[hI.inj l' l2 b c c2 hb hb2] at hl'
  rw[hl'] at hl2;cases hl2
 rintro ed w' ⟨v,E1,rfl,ho,hv,hy,hn⟩
 have hpast:∀b,b<w.heap.size->(∀l c,E0.r l≠ς (b,c))->w'.heap[b]?=w.heap[b]?:=λb hb hl=>ho.past.block b hb (λ⟨o,c,q⟩=>hl o c q)
 have hRh:∀l z b c,go R l=ς z->E.r l=ς (b,c)->w'.heap[b]?=w.heap[b]?:=λl z b c hl hb=>hpast b (hI.rb l b c hb).1 (hR0 l z b c hl hb)
 have hFh:∀b,E.F b->w'.heap[b]?=w.heap[b]?:=λb hb=>hpast b (hI.fb b hb) (λl c hl=>(hI.rb l b c (e1 l _ hl).2).2.2 hb)
 have hHh:∀g b,E.H g b->w'.heap[b]?=w.heap[b]?:=λg b hb=>hFh b (by cases g;exact hb;exact hI.gf b hb)
 let E':Env:=⟨λo=>if(go R o).isSome then E.r o else E1.r o,λb=>E1.F b/\¬isR b,E1.G,E1.T,E1.Z,λo=>if(go R o).isSome then E.n o else E1.n o⟩
 have f0:∀l,go R l=ξ->E'.r l=E1.r l/\(E'.n l↔E1.n l):=λl hl=>by simp[E',hl]
 have f1:∀l x,go R l=ς x->E'.r l=E.r l/\(E'.n l↔E.n l):=λl x hl=>by simp[E',hl]
 have hG':∀b,E1.G b->¬isR b:=λb hb ⟨l,x,c,hl,hr⟩=>by
  rcases ho.g0 b hb with k|k
  .have:=(hI.rb l b c hr).1;omega
  exact(hI.rb l b c hr).2.2 (hI.gf b k)
 have hH':∀g b,E.H g b->E'.H g b:=λg b hb=>by
  cases g
  .exact⟨ho.F b (.inl hb),hnR b hb⟩
  exact ho.G b hb
 have hd:∀l z b c,go R l=ς z->E.r l=ς (b,c)->∀l' c',E1.r l'≠ς (b,c'):=λl z b c hl hb l' c' hl'=>by
  rcases(ho.rb l' b c' hl').2 with k|⟨⟨o',c2,k⟩,_⟩
  .have:=(hI.rb l b c hb).1;omega
  exact hR0 l z b c hl hb o' c2 k
 have hcase:∀l z,E'.r l=ς z->(∃x,go R l=ς x/\E.r l=ς z)\/(go R l=ξ/\E1.r l=ς z):=λl z hl=>by
  cases hg:go R l with
  |none=>exact .inr ⟨rfl,by rw[<-(f0 l hg).1];exact hl⟩
  |some x=>exact .inl ⟨x,rfl,by rw[<-(f1 l x hg).1];exact hl⟩
 refine⟨v,E',rfl,⟨⟨ho.past.os,ho.past.tape,ho.past.output,ho.past.size,λb hb hw=>hpast b hb (λl c hl=>hw ⟨l,c,(e1 l _ hl).2⟩)⟩,λb hb=>ho.fb b hb.1,λb hb=>?_,λb hb=>hH' η b hb,λb hb=>ho.G b hb,λb hb=>⟨ho.gf b hb,hG' b hb⟩,ho.g0,λl b c hl=>?_,λl l' b c c' hl hl'=>?_,λl z hv hl=>?_⟩,WW f0 (λ_ h=>h) h5 hv,λl y hl=>?_,λl y hl=>Rf f0 (λ_ h=>h) (λb hb=>hb.1) h4 hl (hn l y hl)⟩
 .rcases ho.f0 b hb.1 with(k|k)|k
  .exact .inl k
  .exact absurd k hb.2
  exact .inr k
 .rcases hcase l _ hl with⟨x,k1,k2⟩|⟨k1,k2⟩
  .exact⟨Yr (hI.rb l b c k2).1 ho.past.size,.inr ⟨⟨l,c,k2⟩,hRv l x k1⟩⟩
  obtain⟨q1,q2⟩:=ho.rb l b c k2
  exact⟨q1,q2.imp id (λ⟨⟨o',c',q⟩,q'⟩=>⟨⟨o',c',(e1 o' _ q).2⟩,q'⟩)⟩
 .rcases hcase l _ hl with⟨x,k1,k2⟩|⟨k1,k2⟩<;>rcases hcase l' _ hl' with⟨x',m1,m2⟩|⟨m1,m2⟩
  .exact hI.inj l l' b c c' k2 m2
  .exact absurd m2 (hd l x b c k1 k2 l' c')
  .exact absurd k2 (hd l' x' b c' m1 m2 l c)
  exact ho.inj l l' b c c' k2 m2
 .rcases hcase l _ hl with⟨x,k1,k2⟩|⟨k1,k2⟩
  .exact k2
  exact(e1 l z (ho.pin l z hv k2)).2
 cases hg:go R l with
 |none=>rw[Hx hg] at hl;exact Rf f0 (λ_ h=>h) (λb hb=>hb.1) h3 hl (hy l y hl)
 |some x=>
  rw[Hw hg] at hl;cases hl
  have hx0:=hRo l y hg
  obtain⟨_,k2⟩:=AK h1 hg
  have hnF:∀b c,E.r l=ς (b,c)->¬E'.F b:=λb c hb q=>q.2 ⟨l,y,c,hg,hb⟩
  rcases k2 with⟨t,cs,rfl,k5⟩|⟨t,sz,els,g,rfl⟩
  .obtain⟨b,c,arr,m1,m2,m3,m4⟩:=hx0
   exact⟨b,c,arr,(f1 l _ hg).1.trans m1,(hRh l _ b c hg m1).trans m2,Ls f1 hHh hH' k5 m3,hnF b c m1⟩
  rcases hx0 with⟨m0,m1⟩|⟨m0,b,c,arr,m1,m2,m3,m4,m5,m6,m7,m8⟩
  .exact .inl ⟨(f1 l _ hg).2.2 m0,m1⟩
  exact .inr ⟨λq=>m0 ((f1 l _ hg).2.1 q),b,c,arr,(f1 l _ hg).1.trans m1,(hRh l _ b c hg m1).trans m2,m3,m4,m5,m6,cf (hHh g) (hH' g) (hRh l _ b c hg m1) _ _ m7,hnF b c m1⟩
end Go.AM
namespace Go
def ve(N h:Nat):Nat:=Nat.mod (Nat.shiftRight N (10*h)) 1024
def ranked(P:Program)(N:Nat):Bool:=P.funcs.toList.zipIdx.all λy=>(P.leadsTo y.1).all λh=>Yk (ve N h+1) (ve N y.2)
theorem Eb{P:Program}{N:Nat}(h:ranked P N=ζ){g:Nat}{fn:Func}(hg:P.funcs[g]?=ς fn):∀x∈P.leadsTo fn,ve N x<ve N g:=by
 intro x hx
 unfold ranked at h
 rw[Yi] at h
 have h1:=h (fn,g) (by rw[List.mem_zipIdx_iff_getElem?];simpa using hg)
 rw[Yi] at h1
 exact YJ (h1 x hx)
theorem rO{P:Program}{N r:Nat}(h:ranked P N=ζ):∀(fuel:Nat) (todo seen:List FuncId),(∀x∈todo,ve N x<=r)->(∀x∈seen,ve N x<=r)->∀x∈P.closureVia fuel todo seen,ve N x<=r
 |0,todo,seen,h1,h2,x,hx=>h2 x (by simpa [Program.closureVia] using hx)
 |n+1,[],seen,h1,h2,x,hx=>h2 x (by simpa [Program.closureVia] using hx)
 |n+1,f::todo,seen,h1,h2,x,hx=>by
  rw[Program.closureVia] at hx
  split at hx
  .exact rO h n todo seen (λy hy=>h1 y (by simp[hy])) h2 x hx
  refine rO h n _ (f::seen) (λy hy=>?_) (λy hy=>?_) x hx
  .rcases List.mem_append.1 hy with hy|hy
   .cases e:P.funcs[f]? with
    |none=>rw[e] at hy;simp at hy
    |some fn=>
     rw[e] at hy
     have:=Eb h e y (by simpa using hy)
     have:=h1 f (by simp)
     omega
   exact h1 y (by simp[hy])
  rcases Yh.1 hy with rfl|hy
  .exact h1 _ (by simp)
  exact h2 y hy
theorem recurses_of{P:Program}{N:Nat}(h:ranked P N=ζ)(f:FuncId):P.recurses f=P.unfollowed f:=by
 unfold Program.recurses
 rw[show((P.closure f).any λg=>((P.funcs[g]?).elim [] P.leadsTo).any λh=>(P.closure h).contains g)=η from ?_]
 .simp
 rw[ZI]
 intro g hg
 rw[ZJ,ZI]
 intro x hx
 rw[ZJ]
 cases hc:(P.closure x).contains g with
 |false=>rfl
 |true=>
  have hm:g∈P.closure x:=by simpa using hc
  have h1:=rO h (r:=ve N x) _ [x] [] (by simp) (by simp) g hm
  cases e:P.funcs[g]? with
  |none=>rw[e] at hx;simp at hx
  |some fn=>
   rw[e] at hx
   have:=Eb h e x (by simpa using hx)
   omega
def Ns(P:Program)(l:List FuncId):List String:=
 l.filterMap λg=>(P.funcs[g]?).bind λfn=>if fn.ours||fn.body.isNone||fn.name== "runtime.NumGoroutine" then ς fn.name else ξ
def GA(P:Program)(l:List FuncId):Bool:=
 l.any λg=>(P.funcs[g]?).any λfn=>match fn.body with|some c=>c.unfollowed|none=>entryCalls fn
def I1(P:Program)(l:List FuncId):List String:=
 (((l.flatMap λg=>((P.funcs[g]?).bind (·.body)).elim [] Code.globalsNamed).eraseDups).filterMap (λg=>(P.globals[g]?).map (·.name))++
  l.filterMap λg=>(P.funcs[g]?).bind λfn=>if fn.body.isNone then entryReads.lookup fn.name else ξ).eraseDups
theorem inPlace_is{P:Program}{f:FuncId}{l:List FuncId}(h:P.closure f=l):P.inPlace f=Ns P l:=by unfold Program.inPlace;rw[h];rfl
theorem unfollowed_is{P:Program}{f:FuncId}{l:List FuncId}(h:P.closure f=l):P.unfollowed f=GA P l:=by unfold Program.unfollowed;rw[h];rfl
theorem varsNamed_is{P:Program}{f:FuncId}{l:List FuncId}(h:P.closure f=l):P.varsNamed f=I1 P l:=by unfold Program.varsNamed;rw[h];rfl
end Go
