/- A part. -/
import Derived.Test.YtgbcdgihmgapeaaGreatE3
import Derived.JoinedOf
set_option linter.unusedVariables false
set_option linter.unusedSimpArgs false
set_option maxHeartbeats 4000000
open Option renaming some->ς,none->ξ
open Bool renaming true->ζ,false->η
open True renaming intro->θ
open List renaming getElem?_eq_some_iff->v0,mem_append->Zn,getElem?_eq_getElem->Zl,getElem?_append_right->Zr,getElem?_append_left->Zt,mem_of_getElem?->Zk,getElem?_map->ZH,getElem?_set_self->aa0,mem_or_eq_of_mem_set->aaW,flatten_cons->ZW,replicate->ZP,mem_singleton->aaX,getElem?_inj->aa4,any_eq_true->ZG,mem_iff_getElem?->abb,length_singleton->aa5,length_append->ZM,set_set->aa1,any_eq_false->aa6,all_eq_true->Zq,mem_cons->Zp,mem_map->Z9,map_set->abc,range->Zm
open Nat renaming beq->d0,eq_of_beq_eq_true->Zo,ble->Zw,le_of_ble_eq_true->ZK,add_sub_cancel_left->aba,ne_of_lt->aaH,lt_succ_of_lt->aaL,zero_add->Zs,le_refl->Zu
open Option renaming bind_eq_some_iff->aaZ
open Bool renaming not_eq_true'->ZD,and_eq_true->hV,not_eq_true->aa7,and_false->aa8,not_false->aa9,or_false->aa2,and_true->aaY,not_true->aam,or_true->aa3
namespace Go.AM
open Go.RowKit
variable{w:World}{G:Prop}{r:Go.AM.RC}{u:Value}{rs:List ResultVar}{E:Go.AM.Env}{nx n N l sz b e q j id:Nat}{f:FuncId}{nob ob' ob1:Go.AM.Laa}{res:List Go.AM.RV}{out:Go.AM.T}{P:Program}{ty t:TypeId}{sl sl1 sl':Go.AM.Lab}{st s:Go.AM.St}{g gy:Bool}{α:Type}{els:Go.AM.Lad}{ns:List Go.AM.D}{cs:List Go.AM.C}{i:Int}{a:α}{ys:List α}
def rcU(w:World)(G:Nat->Prop)(T:Nat->Nat->Prop)(base:Nat):RC->Value->Lac->Prop
 | .d x,u,bs=>bs=[]/\rdD w G x u
 | .own ty sz els n,u,bs=>∃b c arr,bs=[(b,c)]/\u= .slice (ς ⟨b,0,ξ⟩) n c/\w.heap[b]?=ς (.cells arr ty (0,0))/\arr.size=c*sz/\els.length<=c/\c<=maxLen/\
  (∀e∈els,e.length=sz)/\db w (T b) els b/\¬G b/\base<=b
 | .nil,u,bs=>bs=[]/\u= .slice ξ 0 0
def Iw(w:World)(G:Nat->Prop)(T:Nat->Nat->Prop)(base:Nat):List RC->Lae->Lac->Prop
 |[],[],bs=>bs=[]
 |r::rs,u::us,bs=>∃b1 b2,bs=b1++b2/\rcU w G T base r u b1/\Iw w G T base rs us b2
 |_,_,_=>False
def rvU(w:World)(G:Nat->Prop)(T:Nat->Nat->Prop)(base:Nat):RV->Value->Lac->Prop
 | .c r,u,bs=>rcU w G T base r u bs
 | .agg rs,u,bs=>∃arr,u= .agg arr/\Iw w G T base rs arr.toList bs
def Dl(w:World)(G:Nat->Prop)(T:Nat->Nat->Prop)(base:Nat):List RV->Lae->Lac->Prop
 |[],[],bs=>bs=[]
 |r::rs,u::us,bs=>∃b1 b2,bs=b1++b2/\rvU w G T base r u b1/\Dl w G T base rs us b2
 |_,_,_=>False
def OK(w:World)(G:Nat->Prop)(T:Nat->Nat->Prop)(base:Nat):List RV->Value->Lac->Prop
 |[r],v,bs=>rvU w G T base r v bs
 |rs,v,bs=>∃arr,v= .tuple arr/\Dl w G T base rs arr.toList bs
theorem Si{G:Nat->Prop}{T:Nat->Nat->Prop}{base:Nat}{bs:Lac}(h:rcU w G T base r u bs):∀p∈bs,base<=p.1/\p.1<w.heap.size:=by
 cases r with
 |d x=>obtain⟨rfl,_⟩:=h;simp
 |own ty sz els n=>
  obtain⟨b,c,arr,rfl,_,hh,_,_,_,_,_,_,hb⟩:=h
  grind
 |nil=>obtain⟨rfl,_⟩:=h;simp
theorem ML{w:World}{G:Nat->Prop}{T:Nat->Nat->Prop}{base:Nat}:∀{rs:List RC} {us:Lae} {bs:Lac},Iw w G T base rs us bs->∀p∈bs,base<=p.1/\p.1<w.heap.size
 |[],[],bs,h=>by have:bs=[]:=h;simp_all
 |r::rs,u::us,bs,h=>λp hp=>by
  obtain⟨b1,b2,rfl,h1,h2⟩:=h
  rcases Zn.1 hp with h|h
  .exact Si h1 p h
  exact ML h2 p h
 |[],_::_,_,h=>h.elim
 |_::_,[],_,h=>h.elim
theorem Sz{G:Nat->Prop}{T:Nat->Nat->Prop}{base:Nat}{r:RV}{bs:Lac}(h:rvU w G T base r u bs):∀p∈bs,base<=p.1/\p.1<w.heap.size:=by
 cases r with
 |c r=>exact Si h
 |agg rs=>obtain⟨_,_,h⟩:=h;exact ML h
theorem F8{w:World}{G:Nat->Prop}{T:Nat->Nat->Prop}{base:Nat}:∀{rs:List RV} {us:Lae} {bs:Lac},Dl w G T base rs us bs->∀p∈bs,base<=p.1/\p.1<w.heap.size
 |[],[],bs,h=>by have:bs=[]:=h;simp_all
 |r::rs,u::us,bs,h=>λp hp=>by
  obtain⟨b1,b2,rfl,h1,h2⟩:=h
  rcases Zn.1 hp with h|h
  .exact Sz h1 p h
  exact F8 h2 p h
 |[],_::_,_,h=>h.elim
 |_::_,[],_,h=>h.elim
theorem VE{G:Nat->Prop}{T:Nat->Nat->Prop}{base:Nat}{rs:List RV}{bs:Lac}(h:OK w G T base rs u bs):∀p∈bs,base<=p.1/\p.1<w.heap.size:=by
 match rs,h with
 |[r],h=>exact Sz h
 |[],h=>obtain⟨_,_,h⟩:=h;exact F8 h
 |_::_::_,h=>obtain⟨_,_,h⟩:=h;exact F8 h
def D1(nx:Nat):RC->Option (C×Laa×Nat)
 | .d (.i k n)=>ς (.d η (.i k n),[],nx)
 | .d (.b x)=>ς (.d η (.b x),[],nx)
 | .d (.str s)=>ς (.d η (.str s),[],nx)
 | .d (.l xs)=>ς (.d ζ (.l xs),[],nx)
 | .d (.k _ _ _)=>ξ
 | .own ty sz els n=>ς (.w nx n,[(nx,.row ty sz els (.s nx) ζ)],nx+1)
 | .nil=>ς (.nil,[],nx)
def BU(nx:Nat):List RC->Option (List C×Laa×Nat)
 |[]=>ς ([],[],nx)
 |r::rs=>match D1 nx r with
  |some (c,b,n)=>match BU n rs with
   |some (cs,bs,m)=>ς (c::cs,b++bs,m)
   |none=>ξ
  |none=>ξ
def HN(nx:Nat):RV->Option (V×Laa×Nat)
 | .c r=>match D1 nx r with
  |some (c,b,n)=>ς (.c c,b,n)
  |none=>ξ
 | .agg rs=>match BU nx rs with
  |some (c,b,n)=>ς (.agg c,b,n)
  |none=>ξ
def BV(nx:Nat):List RV->Option (List V×Laa×Nat)
 |[]=>ς ([],[],nx)
 |r::rs=>match HN nx r with
  |some (c,b,n)=>match BV n rs with
   |some (cs,bs,m)=>ς (c::cs,b++bs,m)
   |none=>ξ
  |none=>ξ
def D3(nx:Nat):List RV->Option (T×Laa×Nat)
 |[r]=>match HN nx r with
  |some (v,b,n)=>ς (.v v,b,n)
  |none=>ξ
 |rs=>match BV nx rs with
  |some (v,b,n)=>ς (.tup v,b,n)
  |none=>ξ
theorem DA{T:Nat->Nat->Prop}{b1 b2:Lac}(hb:∀(i:Nat) (p:Nat×Nat),(b1++b2)[i]?=ς p->E.r (nx+i)=ς p/\∀k,T p.1 k->E.T (nx+i) k):
 (∀(i:Nat) (p:Nat×Nat),b1[i]?=ς p->E.r (nx+i)=ς p/\∀k,T p.1 k->E.T (nx+i) k)/\∀(i:Nat) (p:Nat×Nat),b2[i]?=ς p->E.r (nx+b1.length+i)=ς p/\∀k,T p.1 k->E.T (nx+b1.length+i) k:=by
 refine⟨λi p hi=>hb i p ?_,λi p hi=>?_⟩
 .rw[Zt (v0.1 hi).1];exact hi
 have:=hb (b1.length+i) p (by rw[Zr oaa];simpa using hi)
 rwa [<-Nat.add_assoc] at this
section
variable{E:Env}{w:World}{G:Nat->Prop}{T:Nat->Nat->Prop}{base:Nat}(hG:∀b,G b->E.G b)(hnF:∀b:Nat,base<=b->¬G b->¬E.F b)
include hG hnF
theorem HG{bs:Lac}{c:C}{nw:Laa}(h:D1 nx r=ς (c,nw,n))(hr:rcU w G T base r u bs)(hb:∀(i:Nat) (p:Nat×Nat),bs[i]?=ς p->E.r (nx+i)=ς p/\∀k,T p.1 k->E.T (nx+i) k):
 cvC E w c u/\Imp E w nx n bs nw:=by
 cases r with
 |d x=>
  obtain⟨rfl,hr⟩:=hr
  cases x<;>simp[D1] at h<;>obtain⟨rfl,rfl,rfl⟩:=h<;>refine⟨?_,⟨rfl,by simp,λl h1 h2=>by omega⟩⟩
  .simp_all[cvC,gD,rdD]
  .simp_all[cvC,gD,rdD]
  .simp_all[cvC,gD,rdD]
  exact bP (λ_ _=>rfl) hG _ _ hr
 |own ty sz els n'=>
  obtain⟨b,cc,arr,rfl,rfl,hh,ha,hlc,hmx,hes,hrd,hgb,hbb⟩:=hr
  simp[D1] at h;obtain⟨rfl,rfl,rfl⟩:=h
  obtain⟨this,hTT⟩:=hb 0 (b,cc) rfl
  rw[Nat.add_zero] at this hTT
  refine⟨⟨b,cc,this,rfl⟩,⟨rfl,λl x hm=>?_,λl h1 h2=>⟨.row ty sz els (.s nx) ζ,by
   have e:l=nx:=by have:[(b,cc)].length=1:=rfl;omega
   rw[e];exact .head _⟩⟩⟩
  simp at hm;obtain⟨rfl,rfl⟩:=hm
  exact⟨⟨b,cc,arr,this,hh,ha,hlc,hmx,hes,(hrd.keep rfl (λ_ _=>rfl) hTT).rdT,λ_=>hnF b hbb hgb,(λh=>by cases h),hrd.keep rfl (λ_ _=>rfl) hTT⟩,by omega,by omega⟩
 |nil=>
  obtain⟨rfl,hr⟩:=hr
  simp[D1] at h;obtain⟨rfl,rfl,rfl⟩:=h
  exact⟨hr,⟨rfl,by simp,λl h1 h2=>by omega⟩⟩
theorem D2:∀{rs:List RC} {us:Lae} {bs:Lac} {nx n:Nat} {cs:List C} {nw:Laa},BU nx rs=ς (cs,nw,n)->Iw w G T base rs us bs->(∀(i:Nat) (p:Nat×Nat),bs[i]?=ς p->E.r (nx+i)=ς p/\∀k,T p.1 k->E.T (nx+i) k)->
 CV E w cs us/\Imp E w nx n bs nw
 |[],us,bs,nx,n,cs,nw,h,hr,hb=>by
  simp[BU] at h;obtain⟨rfl,rfl,rfl⟩:=h
  cases us with
  |nil=>have:bs=[]:=hr;subst this;exact⟨θ,⟨rfl,by simp,λl h1 h2=>by omega⟩⟩
  |cons _ _=>exact hr.elim
 |r::rs,us,bs,nx,n,cs,nw,h,hr,hb=>by
  cases us with
  |nil=>exact hr.elim
  |cons u us=>
   obtain⟨b1,b2,rfl,hr1,hr2⟩:=hr
   simp only[BU] at h
   split at h
   .rename_i c nw1 n1 h1
    split at h
    .rename_i cs2 nw2 n2 h2
     simp at h;obtain⟨rfl,rfl,rfl⟩:=h
     obtain⟨hb1,hb2⟩:=DA hb
     obtain⟨k1,k2⟩:=HG hG hnF h1 hr1 hb1
     have hn1:=k2.1
     subst hn1
     obtain⟨m1,m2⟩:=D2 h2 hr2 hb2
     exact⟨⟨k1,m1⟩,k2.join m2⟩
    cases h
   cases h
theorem HO{r:RV}{bs:Lac}{v:V}{nw:Laa}(h:HN nx r=ς (v,nw,n))(hr:rvU w G T base r u bs)(hb:∀(i:Nat) (p:Nat×Nat),bs[i]?=ς p->E.r (nx+i)=ς p/\∀k,T p.1 k->E.T (nx+i) k):
 cvV E w v u/\Imp E w nx n bs nw:=by
 cases r with
 |c r=>
  simp only[HN] at h
  split at h
  .rename_i h1;simp at h;obtain⟨rfl,rfl,rfl⟩:=h;exact HG hG hnF h1 hr hb
  cases h
 |agg rs=>
  simp only[HN] at h
  split at h
  .rename_i h1;simp at h;obtain⟨rfl,rfl,rfl⟩:=h
   obtain⟨arr,hu,hr⟩:=hr
   obtain⟨k1,k2⟩:=D2 hG hnF h1 hr hb
   exact⟨⟨arr,hu,k1⟩,k2⟩
  cases h
theorem zG:∀{rs:List RV} {us:Lae} {bs:Lac} {nx n:Nat} {cs:List V} {nw:Laa},BV nx rs=ς (cs,nw,n)->Dl w G T base rs us bs->(∀(i:Nat) (p:Nat×Nat),bs[i]?=ς p->E.r (nx+i)=ς p/\∀k,T p.1 k->E.T (nx+i) k)->
 VV E w cs us/\Imp E w nx n bs nw
 |[],us,bs,nx,n,cs,nw,h,hr,hb=>by
  simp[BV] at h;obtain⟨rfl,rfl,rfl⟩:=h
  cases us with
  |nil=>have:bs=[]:=hr;subst this;exact⟨θ,⟨rfl,by simp,λl h1 h2=>by omega⟩⟩
  |cons _ _=>exact hr.elim
 |r::rs,us,bs,nx,n,cs,nw,h,hr,hb=>by
  cases us with
  |nil=>exact hr.elim
  |cons u us=>
   obtain⟨b1,b2,rfl,hr1,hr2⟩:=hr
   simp only[BV] at h
   split at h
   .rename_i c nw1 n1 h1
    split at h
    .rename_i cs2 nw2 n2 h2
     simp at h;obtain⟨rfl,rfl,rfl⟩:=h
     obtain⟨hb1,hb2⟩:=DA hb
     obtain⟨k1,k2⟩:=HO hG hnF h1 hr1 hb1
     have hn1:=k2.1
     subst hn1
     obtain⟨m1,m2⟩:=zG h2 hr2 hb2
     exact⟨⟨k1,m1⟩,k2.join m2⟩
    cases h
   cases h
theorem HM{rs:List RV}{bs:Lac}{t:AM.T}{nw:Laa}(h:D3 nx rs=ς (t,nw,n))(hr:OK w G T base rs u bs)(hb:∀(i:Nat) (p:Nat×Nat),bs[i]?=ς p->E.r (nx+i)=ς p/\∀k,T p.1 k->E.T (nx+i) k):
 cvT E w t u/\Imp E w nx n bs nw:=by
 match rs,h,hr with
 |[r],h,hr=>
  simp only[D3] at h
  split at h
  .rename_i h1;simp at h;obtain⟨rfl,rfl,rfl⟩:=h;exact HO hG hnF h1 hr hb
  cases h
 |[],h,hr=>
  simp only[D3] at h
  split at h
  .rename_i h1;simp at h;obtain⟨rfl,rfl,rfl⟩:=h
   obtain⟨arr,hu,hr⟩:=hr
   obtain⟨k1,k2⟩:=zG hG hnF h1 hr hb
   exact⟨⟨arr,hu,k1⟩,k2⟩
  cases h
 |r1::r2::rs,h,hr=>
  simp only[D3] at h
  split at h
  .rename_i h1;simp at h;obtain⟨rfl,rfl,rfl⟩:=h
   obtain⟨arr,hu,hr⟩:=hr
   obtain⟨k1,k2⟩:=zG hG hnF h1 hr hb
   exact⟨⟨arr,hu,k1⟩,k2⟩
  cases h
end
section
variable{w:World}{G:Nat->Prop}{T T':Nat->Nat->Prop}{base:Nat}
theorem WK{bs:Lac}(h:rcU w G T base r u bs)(hT:∀b c,(b,c)∈bs->∀k,T b k->T' b k):rcU w G T' base r u bs:=by
 cases r with
 |d x=>exact h
 |own ty sz els n=>
  obtain⟨b,c,arr,rfl,h1,h2,h3,h4,h5,h6,h7,h8⟩:=h
  exact⟨b,c,arr,rfl,h1,h2,h3,h4,h5,h6,h7.keep rfl (λ_ _=>rfl) (hT b c (.head _)),h8⟩
 |nil=>exact h
theorem Sl:∀{rs:List RC} {us:Lae} {bs:Lac},Iw w G T base rs us bs->(∀b c,(b,c)∈bs->∀k,T b k->T' b k)->Iw w G T' base rs us bs
 |[],[],bs,h,_=>h
 |r::rs,u::us,bs,⟨b1,b2,e,h1,h2⟩,hT=>⟨b1,b2,e,WK h1 (λb c hm=>hT b c (by rw[e];exact Zn.2 (.inl hm))),Sl h2 (λb c hm=>hT b c (by rw[e];exact Zn.2 (.inr hm)))⟩
 |[],_::_,_,h,_=>h.elim
 |_::_,[],_,h,_=>h.elim
theorem rvU_T{r:RV}{bs:Lac}(h:rvU w G T base r u bs)(hT:∀b c,(b,c)∈bs->∀k,T b k->T' b k):rvU w G T' base r u bs:=by
 cases r with
 |c r=>exact WK h hT
 |agg rs=>obtain⟨arr,e,h⟩:=h;exact⟨arr,e,Sl h hT⟩
theorem SB:∀{rs:List RV} {us:Lae} {bs:Lac},Dl w G T base rs us bs->(∀b c,(b,c)∈bs->∀k,T b k->T' b k)->Dl w G T' base rs us bs
 |[],[],bs,h,_=>h
 |r::rs,u::us,bs,⟨b1,b2,e,h1,h2⟩,hT=>⟨b1,b2,e,rvU_T h1 (λb c hm=>hT b c (by rw[e];exact Zn.2 (.inl hm))),SB h2 (λb c hm=>hT b c (by rw[e];exact Zn.2 (.inr hm)))⟩
 |[],_::_,_,h,_=>h.elim
 |_::_,[],_,h,_=>h.elim
end
section
variable{w:World}{G G':Nat->Prop}{T:Nat->Nat->Prop}{base:Nat}(hG:∀b,G b->G' b)
include hG
theorem WJ{bs:Lac}(h:rcU w G T base r u bs)(hT:∀p∈bs,∀k,T p.1 k->G' k)(hn:∀p∈bs,(G' p.1->G p.1)):rcR w G' base r u bs:=by
 cases r with
 |d x=>exact⟨h.1,bP (λ_ _=>rfl) hG x u h.2⟩
 |own ty sz els n=>
  obtain⟨b,c,arr,rfl,h1,h2,h3,h4,h5,h6,h7,h8,h9⟩:=h
  have h10:db w G' els b:=h7.keep rfl (λ_ _=>rfl) (hT (b,c) (.head _))
  exact⟨b,c,arr,rfl,h1,h2,h3,h4,h5,h6,h10.rdT,λk=>h8 (hn (b,c) (.head _) k),h9⟩
 |nil=>exact h
theorem Sk:∀{rs:List RC} {us:Lae} {bs:Lac},Iw w G T base rs us bs->(∀p∈bs,∀k,T p.1 k->G' k)->(∀p∈bs,(G' p.1->G p.1))->Ci w G' base rs us bs
 |[],[],bs,h,_,_=>h
 |r::rs,u::us,bs,⟨b1,b2,e,h1,h2⟩,hT,hn=>⟨b1,b2,e,WJ hG h1 (λp hm=>hT p (by rw[e];exact Zn.2 (.inl hm))) (λp hm=>hn p (by rw[e];exact Zn.2 (.inl hm))),Sk h2 (λp hm=>hT p (by rw[e];exact Zn.2 (.inr hm))) (λp hm=>hn p (by rw[e];exact Zn.2 (.inr hm)))⟩
 |[],_::_,_,h,_,_=>h.elim
 |_::_,[],_,h,_,_=>h.elim
theorem WO{r:RV}{bs:Lac}(h:rvU w G T base r u bs)(hT:∀p∈bs,∀k,T p.1 k->G' k)(hn:∀p∈bs,(G' p.1->G p.1)):rvR w G' base r u bs:=by
 cases r with
 |c r=>exact WJ hG h hT hn
 |agg rs=>obtain⟨arr,e,h⟩:=h;exact⟨arr,e,Sk hG h hT hn⟩
theorem KE:∀{rs:List RV} {us:Lae} {bs:Lac},Dl w G T base rs us bs->(∀p∈bs,∀k,T p.1 k->G' k)->(∀p∈bs,(G' p.1->G p.1))->zY w G' base rs us bs
 |[],[],bs,h,_,_=>h
 |r::rs,u::us,bs,⟨b1,b2,e,h1,h2⟩,hT,hn=>⟨b1,b2,e,WO hG h1 (λp hm=>hT p (by rw[e];exact Zn.2 (.inl hm))) (λp hm=>hn p (by rw[e];exact Zn.2 (.inl hm))),KE h2 (λp hm=>hT p (by rw[e];exact Zn.2 (.inr hm))) (λp hm=>hn p (by rw[e];exact Zn.2 (.inr hm)))⟩
 |[],_::_,_,h,_,_=>h.elim
 |_::_,[],_,h,_,_=>h.elim
end
theorem Yo{G G':Nat->Prop}{T:Nat->Nat->Prop}{base:Nat}{rs:List RV}{v:Value}{bs:Lac}(h:OK w G T base rs v bs)(hG:∀b,G b->G' b)(hT:∀p∈bs,∀k,T p.1 k->G' k)(hn:∀p∈bs,(G' p.1->G p.1)):wv w G' base rs v bs:=by
 match rs,h with
 |[r],h=>exact WO hG h hT hn
 |[],h=>obtain⟨arr,e,h⟩:=h;exact⟨arr,e,KE hG h hT hn⟩
 |r1::r2::rs,h=>obtain⟨arr,e,h⟩:=h;exact⟨arr,e,KE hG h hT hn⟩
structure FnU(P:Program)(f:FuncId)(args:List AV)(res:List RV):Prop where
 enters:∀(vs:Array Value) (w:World),(callFunc f vs).run P w= .ok (.enter f vs) w
 calls:∀(F:Nat->Prop) (w:World) (vals:Array Value),(∀b,F b->b<w.heap.size)->TabsIn w->AR w F args vals.toList->
  Calls P f vals w λe w'=>∃(v:Value) (G:Nat->Prop) (T:Nat->Nat->Prop) (bs:Lac),e= .returned v/\zk w w' (λ_=>False)/\(∀b,G b->w.heap.size<=b/\b<w'.heap.size/\eJ w' b)/\
   OK w' G T w.heap.size res v bs/\(bs.map (·.1)).Nodup/\(∀b k,T b k->(w.heap.size<=k/\k<w'.heap.size/\eJ w' k)/\¬G k/\(∀p∈bs,p.1≠k))/\(∀b b' k,T b k->T b' k->b=b')
def Env.afterU(E:Env)(nx:Nat)(bs:Lac)(G:Nat->Prop)(T:Nat->Nat->Prop):Env:=
 {E.after nx bs G with T:=λl k=>E.T l k\/∃i p,l=nx+i/\bs[i]?=ς p/\T p.1 k}
section
variable{P:Program}{N:Nat}{d:Tmp}{ty:TypeId}{ps:String}{af:Array Edge}{gd:Option (Nat×Bool)}
theorem Vj{args:List Operand}{tys:Array TypeId}{ts:List AM.T}{avs:List AV}{eqs:Lac}{out:AM.T}{nw:Laa}(hl:ts.length=args.length)(ha:qN nob ts=ς (avs,eqs))(hF:FnU P f avs res)(he:Eqs eqs)(hi:D3 nx res=ς (out,nw,n)):
 AWN P ⟨ς d,.call ⟨.value (.func f),args.toArray,tys⟩,ty,ps,af,gd⟩ (args.zip ts) nob out nw:=by
 intro cx E a w ok hn hb hfr
 have hob:∀l x,go nob l=ς x->cg E w l x:=λl x h=>hb l x (uR h)
 have hA:=Aa ok hob ha he hl hn
 have hFb:∀b,xR E nob b->b<w.heap.size:=by
  rintro b ((h|⟨l,x,c,h1,h2⟩)|⟨l,h⟩)
  .exact ok.fb b h
  .exact(ok.rb l b c h2).1
  exact(ok.sf.tb l b h).1.1
 have hc:=hF.calls (xR E nob) w (args.map a.eval).toArray hFb ok.tabs (by simpa using hA)
 have hent:=hF.enters (args.map a.eval).toArray w
 unfold Oper.wp
 have hrun:(execOp a.eval ⟨ς d,.call ⟨.value (.func f),args.toArray,tys⟩,ty,ps,af,gd⟩).run P w= .ok (.enter f (args.map a.eval).toArray) w:=by
  simp only[execOp,resolve,Act.eval,Deferred.ofValue,Sem.run_bind,Sem.run_pure,Result.andThen_ok,invoke]
  simpa using hent
 rw[hrun,Oper.upon_enter]
 refine hc.mono ?_
 rintro e w' ⟨v,G,T,bs,rfl,hp,hG,hres,hnd,hT,hTT⟩
 have hbs:=VE hres
 have hlen:∀l,nx<=l->l<nx+bs.length->E.r l=ξ/\rsv l=false:=by
  have himp:=HM (E:={r:=λo=>bs[o-nx]?,F:=G,G:=G,T:=λl k=>∃i p,l=nx+i/\bs[i]?=ς p/\T p.1 k}) (λ_ h=>h) (λb _ h=>h) hi hres (λi p hi=>⟨by simp[hi],λk hk=>⟨i,p,rfl,hi,hk⟩⟩)
  intro l h1 h2
  obtain⟨x,hx⟩:=himp.2.2.2 l h1 (by rw[himp.2.1];exact h2)
  exact hfr l x hx
 obtain⟨ok1,ext⟩:=zu ok hp hG hbs hnd hlen
 have hTo:∀l b,E.T l b->l<nx\/nx+bs.length<=l\/True:=λ_ _ _=>.inr (.inr trivial)
 have hnewB:∀{l b},E.T l b->b<w.heap.size:=λh=>(ok.sf.tb _ _ h).1.1
 have ok':cF cx (E.afterU nx bs G T) w':=by
  refine⟨ok1.fb,ok1.gf,ok1.gn,ok1.rb,ok1.inj,ok1.os,ok1.tape,ok1.output,ok1.size,ok1.block,ok1.pin,ok1.ff,ok1.gc,⟨λl k h=>?_,λl l' k h h'=>?_,ok1.sf.zc,ok1.sf.zs,ok1.sf.ze⟩⟩
  .rcases h with h|⟨i,p,rfl,h1,h2⟩
   .exact ok1.sf.tb l k h
   obtain⟨⟨k1,k2,k3⟩,k4,k5⟩:=hT _ _ h2
   refine⟨⟨k2,.inl (Nat.le_trans ok.size k1)⟩,λhf=>?_,λo c ho=>?_,k3⟩
   .rcases hf with hf|hf
    .have:=ok.fb k hf;omega
    exact k4 hf
   have ho:(E.after nx bs G).r o=ς (k,c):=ho
   simp only[Env.after] at ho
   split at ho
   .exact k5 _ (Zk ho) rfl
   have:=(ok.rb o k c ho).1;omega
  rcases h with h|⟨i,p,rfl,h1,h2⟩<;>rcases h' with h'|⟨i',p',rfl,h1',h2'⟩
  .exact ok1.sf.tt l l' k h h'
  .have:=hnewB h;have:=(hT _ _ h2').1.1;omega
  .have:=hnewB h';have:=(hT _ _ h2).1.1;omega
  have e:=hTT _ _ _ h2 h2'
  have hi1:i<bs.length:=(v0.1 h1).1
  have hi2:i'<bs.length:=(v0.1 h1').1
  have:(bs.map (·.1))[i]?=(bs.map (·.1))[i']?:=by rw[ZH,ZH,h1,h1'];simp[e]
  have:=(aa4 (by simpa using hi1) hnd).1 this
  omega
 have ext':Ext E w (E.afterU nx bs G T) w':=⟨ext.r,ext.F,ext.G,ext.F',ext.heap,λl k h=>.inl h,λl k h=>by
  rcases h with h|⟨i,p,rfl,h1,h2⟩
  .exact .inl h
  have hi1:i<bs.length:=(v0.1 h1).1
  refine .inr ⟨(hlen _ (Nat.le_add_right _ _) oaa).1,p,?_⟩
  show(if nx<=nx+i/\nx+i<nx+bs.length then bs[nx+i-nx]? else E.r (nx+i))=ς p
  rw[if_pos ⟨by omega,by omega⟩,aba];exact h1,ext.Z,ext.n⟩
 have himp:=HM (E:=E.afterU nx bs G T) (G:=G) (T:=T) (base:=w.heap.size) (λb h=>.inr h) (λb hb hng hF=>by
  rcases hF with h|h
  .have:=ok.fb b h;omega
  exact hng h) hi hres (λi p hi=>by
  have hi1:i<bs.length:=(v0.1 hi).1
  refine⟨?_,λk hk=>.inr ⟨i,p,rfl,hi,hk⟩⟩
  show(if nx<=nx+i/\nx+i<nx+bs.length then bs[nx+i-nx]? else E.r (nx+i))=ς p
  rw[if_pos ⟨by omega,by omega⟩,aba];exact hi)
 refine⟨v,E.afterU nx bs G T,rfl,ok',ext',himp.1,λl ob hm=>(himp.2.2.1 l ob hm).1,λl x hx=>?_⟩
 have hx:(if nx<=l/\l<nx+bs.length then bs[l-nx]? else E.r l)=ς x:=hx
 split at hx
 .rename_i hh;obtain⟨y,hy⟩:=himp.2.2.2 l hh.1 (by rw[himp.2.1];exact hh.2);exact .inr ⟨y,hy⟩
 exact .inl hx
end
theorem cu{d:Tmp}{ps:String}{af:Array Edge}{gd:Option (Nat×Bool)}{sl:List (Nat×AM.T)}{ob:Laa}{args:List Operand}{tys:Array TypeId}{ts:List AM.T}{avs:List AV}{eqs:Lac}{out:AM.T}{nw:Laa}(ht:ni sl args=ς ts:=by exact rfl)(hp:oi ob (Ag ts)=ς nob:=by exact rfl)(ha:qN nob ts=ς (avs,eqs):=by exact rfl)(hF:FnU P f avs res)(he:Eqs eqs:=by repeat (first|exact θ|refine⟨by first|rfl|exact lm _|simp,?_⟩))(hi:D3 nx res=ς (out,nw,n):=by exact rfl)(hw:zL nx nw n=true:=by exact rfl)(hN:nlt d N=true:=by exact rfl)(hob:apO nw ob=ς ob':=by exact rfl):
 NS P N ⟨ς d,.call ⟨.value (.func f),args.toArray,tys⟩,ty,ps,af,gd⟩ ⟨sl,ob,nx⟩ ⟨(d,out)::sl,ob',n⟩ ⟨d,args.zip ts,nob,out,nw⟩:=by
 obtain⟨h1,h2⟩:=nN ht
 rw[mY hob]
 exact c9 (st:=⟨sl,ob,nx⟩) (Vj h1 ha hF he hi) rfl hN h2 (qs hp) (yt hw)
def qU(ob:Laa):C->Option (RC×Lac)
 | .d _ (.i k n)=>ς (.d (.i k n),[])
 | .d _ (.b x)=>ς (.d (.b x),[])
 | .d _ (.str s)=>ς (.d (.str s),[])
 | .d (.b ζ) (.l xs)=>ς (.d (.l xs),[])
 | .w o n=>match go ob o,rsv o with
  |some (.row ty sz els (.s l) ζ),η=>ς (.own ty sz els n,[(o,l)])
  |_,_=>ξ
 | .nil=>ς (.nil,[])
 |_=>ξ
def BF(ob:Laa):List C->Option (List RC×Lac)
 |[]=>ς ([],[])
 |c::cs=>match qU ob c,BF ob cs with
  |some (r,l),ς (rs,ls)=>ς (r::rs,l++ls)
  |_,_=>ξ
def LS(ob:Laa):V->Option (RV×Lac)
 | .c c=>match qU ob c with
  |some (r,l)=>ς (.c r,l)
  |none=>ξ
 | .agg cs=>match BF ob cs with
  |some (r,l)=>ς (.agg r,l)
  |none=>ξ
def zw(ob:Laa):List V->Option (List RV×Lac)
 |[]=>ς ([],[])
 |c::cs=>match LS ob c,zw ob cs with
  |some (r,l),ς (rs,ls)=>ς (r::rs,l++ls)
  |_,_=>ξ
def Xb(P:Program)(rs:List ResultVar)(res:List RV)(s:St):Prop:=∃vs ls,it P s rs vs/\zw s.ob vs=ς (res,ls)/\gm (ls.map (·.1))=ζ/\gm (ls.map (·.2))=ζ
def Of(E:Env)(bs:Lac)(ls:Lac):Prop:=bs.length=ls.length/\∀(i:Nat) (l:Nat×Nat),ls[i]?=ς l->∃p,bs[i]?=ς p/\E.r l.1=ς p
theorem Of.join{b1 b2:Lac}{l1 l2:Lac}(h:Of E b1 l1)(k:Of E b2 l2):Of E (b1++b2) (l1++l2):=by
 refine⟨by simp[h.1,k.1],λi l hi=>?_⟩
 by_cases hl:i<l1.length
 .rw[Zt hl] at hi
  obtain⟨p,h1,h2⟩:=h.2 i l hi
  exact⟨p,by rw[Zt (by rw[h.1];exact hl)];exact h1,h2⟩
 rw[Zr oaa] at hi
 obtain⟨p,h1,h2⟩:=k.2 _ l hi
 exact⟨p,by rw[Zr (by rw[h.1];omega),h.1];exact h1,h2⟩
section
variable{N:Nat}{cx:Cx}{E:Env}{st:St}{a:Act}{w:World}(hR:Rel N cx E st a w)(hn:∀b,cx.In b->cx.w0.heap.size<=b){T:Nat->Nat->Prop}(hT:∀o l b c k,go st.ob o≠ξ->E.r o=ς (b,c)->(∃ty sz els,go st.ob o=ς (.row ty sz els (.s l) ζ))->E.T l k->T b k)
include hR hn hT
theorem Hm{c:C}{ls:Lac}(h:qU st.ob c=ς (r,ls))(hc:cvC E w c u):∃bs,rcU w E.G T cx.w0.heap.size r u bs/\Of E bs ls/\∀p∈ls,∃ty sz els,go st.ob p.1=ς (.row ty sz els (.s p.2) ζ):=by
 cases c with
 |d g x=>
  have hz:Of E [] []:=⟨rfl,λ_ _ h=>by simp at h⟩
  cases x with
  |i k n=>simp[qU] at h;obtain⟨rfl,rfl⟩:=h;exact⟨[],⟨rfl,by simpa [rdD] using p4 hc⟩,hz,λ_ h=>by cases h⟩
  |b k=>simp[qU] at h;obtain⟨rfl,rfl⟩:=h;exact⟨[],⟨rfl,by simpa [rdD] using p4 hc⟩,hz,λ_ h=>by cases h⟩
  |str k=>simp[qU] at h;obtain⟨rfl,rfl⟩:=h;exact⟨[],⟨rfl,by simpa [rdD] using p4 hc⟩,hz,λ_ h=>by cases h⟩
  |l xs=>
   cases g with
   |b g=>cases g with
    |false=>simp[qU] at h
    |true=>simp[qU] at h;obtain⟨rfl,rfl⟩:=h;exact⟨[],⟨rfl,hc⟩,hz,λ_ h=>by cases h⟩
   |s n=>simp[qU] at h
   |t n=>simp[qU] at h
  |k A n c=>simp[qU] at h
 |w o n=>
  simp only[qU] at h
  split at h
  .rename_i ty sz els l ho hrv
   simp at h;obtain⟨rfl,rfl⟩:=h
   obtain⟨b,c,hr,rfl⟩:=hc
   obtain⟨b',c',arr,hr',hh,ha,hlc,hmx,hes,hrd,hFm,_,hTr⟩:=hR.obs o _ ho
   rw[hr] at hr';cases hr'
   refine⟨[(b,c)],⟨b,c,arr,rfl,rfl,hh,ha,hlc,hmx,hes,db.keep (T:=E.T l) hTr rfl (λ_ _=>rfl) (λk hk=>hT o l b c k (by rw[ho];simp) hr ⟨_,_,_,ho⟩ hk),λhg=>hFm rfl (hR.ok.gf b hg),hn b (((hR.ok.rb o b c hr).2).resolve_right (λh=>by rw[hrv] at h;exact absurd h.2 (by decide)))⟩,⟨rfl,λi q hi=>?_⟩,λp hp=>?_⟩
   .cases i with
    |zero=>simp at hi;subst hi;exact⟨(b,c),rfl,hr⟩
    |succ i=>simp at hi
   simp at hp;subst hp;exact⟨_,_,_,ho⟩
  cases h
 |nil=>simp[qU] at h;obtain⟨rfl,rfl⟩:=h;exact⟨[],⟨rfl,hc⟩,⟨rfl,λ_ _ h=>by simp at h⟩,λ_ h=>by cases h⟩
 |_=>simp[qU] at h
theorem DJ:∀{cs:List C} {rs:List RC} {ls:Lac} {us:Lae},BF st.ob cs=ς (rs,ls)->CV E w cs us->∃bs,Iw w E.G T cx.w0.heap.size rs us bs/\Of E bs ls/\∀p∈ls,∃ty sz els,go st.ob p.1=ς (.row ty sz els (.s p.2) ζ)
 |[],rs,ls,us,h,hc=>by
  simp[BF] at h;obtain⟨rfl,rfl⟩:=h
  cases us with
  |nil=>exact⟨[],rfl,⟨rfl,λ_ _ h=>by simp at h⟩,λ_ h=>by cases h⟩
  |cons _ _=>exact hc.elim
 |c::cs,rs,ls,us,h,hc=>by
  cases us with
  |nil=>exact hc.elim
  |cons u us=>
   simp only[BF] at h
   split at h
   .rename_i r l rs' ls' h1 h2
    simp at h;obtain⟨rfl,rfl⟩:=h
    obtain⟨b1,k1,k2,k3⟩:=Hm hR hn hT h1 hc.1
    obtain⟨b2,m1,m2,m3⟩:=DJ h2 hc.2
    exact⟨b1++b2,⟨b1,b2,rfl,k1,m1⟩,k2.join m2,λp hp=>(Zn.1 hp).elim (k3 p) (m3 p)⟩
   cases h
theorem QG{v:V}{r:RV}{ls:Lac}(h:LS st.ob v=ς (r,ls))(hv:cvV E w v u):∃bs,rvU w E.G T cx.w0.heap.size r u bs/\Of E bs ls/\∀p∈ls,∃ty sz els,go st.ob p.1=ς (.row ty sz els (.s p.2) ζ):=by
 cases v with
 |c c=>
  simp only[LS] at h
  split at h
  .rename_i r' l' h1;simp at h;obtain⟨rfl,rfl⟩:=h;exact Hm hR hn hT h1 hv
  cases h
 |agg cs=>
  simp only[LS] at h
  split at h
  .rename_i r' l' h1;simp at h;obtain⟨rfl,rfl⟩:=h
   obtain⟨arr,hu,hc⟩:=hv
   obtain⟨bs,k1,k2,k3⟩:=DJ hR hn hT h1 hc
   exact⟨bs,⟨arr,hu,k1⟩,k2,k3⟩
  cases h
theorem DM:∀{cs:List V} {rs:List RV} {ls:Lac} {us:Lae},zw st.ob cs=ς (rs,ls)->VV E w cs us->∃bs,Dl w E.G T cx.w0.heap.size rs us bs/\Of E bs ls/\∀p∈ls,∃ty sz els,go st.ob p.1=ς (.row ty sz els (.s p.2) ζ)
 |[],rs,ls,us,h,hc=>by
  simp[zw] at h;obtain⟨rfl,rfl⟩:=h
  cases us with
  |nil=>exact⟨[],rfl,⟨rfl,λ_ _ h=>by simp at h⟩,λ_ h=>by cases h⟩
  |cons _ _=>exact hc.elim
 |c::cs,rs,ls,us,h,hc=>by
  cases us with
  |nil=>exact hc.elim
  |cons u us=>
   simp only[zw] at h
   split at h
   .rename_i r l rs' ls' h1 h2
    simp at h;obtain⟨rfl,rfl⟩:=h
    obtain⟨b1,k1,k2,k3⟩:=QG hR hn hT h1 hc.1
    obtain⟨b2,m1,m2,m3⟩:=DM h2 hc.2
    exact⟨b1++b2,⟨b1,b2,rfl,k1,m1⟩,k2.join m2,λp hp=>(Zn.1 hp).elim (k3 p) (m3 p)⟩
   cases h
end
theorem IE{fn:Func}{a:Act}{us:Lae}(hm:(fn.results.mapM (jC a.tmps)).run P w= .ok us.toArray w):(results fn a.tmps).run P w= .ok (if h:us.toArray.size=1 then us.toArray[0] else .tuple us.toArray) w:=by
 have hres:results fn a.tmps=(fn.results.mapM (jC a.tmps))>>= λvs=>pure (if h:vs.size=1 then vs[0] else .tuple vs):=rfl
 rw[hres,Sem.run_bind,hm];rfl
theorem UW{cx:Cx}{a:Act}(hR:Rel N cx E st a w)(hn:∀b,cx.In b->cx.w0.heap.size<=b){fn:Func}(h:Xb P fn.results.toList res st):
 ∃(v:Value) (T:Nat->Nat->Prop) (bs:Lac),(results fn a.tmps).run P w= .ok v w/\OK w E.G T cx.w0.heap.size res v bs/\(bs.map (·.1)).Nodup/\
  (∀b k,T b k->∃l,E.T l k)/\(∀p∈bs,∃l,E.r l=ς p)/\(∀b b' k,T b k->T b' k->b=b'):=by
 obtain⟨vs,ls,h1,h2,h3,h4⟩:=h
 obtain⟨us,k1,k2⟩:=sT hR h1
 let T0:Nat->Nat->Prop:=λb k=>∃o l c,(o,l)∈ls/\E.r o=ς (b,c)/\E.T l k
 have hobs:∃bs,Dl w E.G (λb k=>∃o l c,E.r o=ς (b,c)/\(∃ty sz els,go st.ob o=ς (.row ty sz els (.s l) ζ))/\E.T l k) cx.w0.heap.size res us bs/\Of E bs ls/\∀p∈ls,∃ty sz els,go st.ob p.1=ς (.row ty sz els (.s p.2) ζ):=
  DM hR hn (λo l b c k _ hr hg hk=>⟨o,l,c,hr,hg,hk⟩) h2 k2
 obtain⟨bs,m1,m2,m3⟩:=hobs
 have nd1:=eP h3
 have nd2:=eP h4
 have hbl:∀p∈bs,∃q∈ls,E.r q.1=ς p:=by
  intro p hp
  obtain⟨i,hi,rfl⟩:=List.mem_iff_getElem.1 hp
  have hl:i<ls.length:=by rw[<-m2.1];exact hi
  obtain⟨p',h5,h6⟩:=m2.2 i ls[i] (Zl hl)
  rw[Zl hi] at h5;cases h5
  exact⟨ls[i],List.getElem_mem hl,h6⟩
 have nl:∀{i j:Nat} {x y:Nat×Nat},ls[i]?=ς x->ls[j]?=ς y->x.1=y.1->i=j:=λ{i j x y} h h' e=>by
  have hi:i<(ls.map (·.1)).length:=by simpa using(v0.1 h).1
  exact(aa4 hi nd1).1 (by rw[ZH,ZH,h,h'];simp[e])
 have nl2:∀{x y:Nat×Nat},x∈ls->y∈ls->x.2=y.2->x=y:=λ{x y} h h' e=>by
  obtain⟨i,hi⟩:=abb.1 h
  obtain⟨j,hj⟩:=abb.1 h'
  have hi':i<(ls.map (·.2)).length:=by simpa using(v0.1 hi).1
  have:i=j:=(aa4 hi' nd2).1 (by rw[ZH,ZH,hi,hj];simp[e])
  subst this;rw[hi] at hj;exact Option.some.inj hj
 have hnd:(bs.map (·.1)).Nodup:=by
  rw[List.nodup_iff_pairwise_ne,List.pairwise_map,List.pairwise_iff_getElem]
  intro i j hi hj hij e
  have hli:i<ls.length:=by rw[<-m2.1];exact hi
  have hlj:j<ls.length:=by rw[<-m2.1];exact hj
  obtain⟨p,h5,h6⟩:=m2.2 i ls[i] (Zl hli)
  obtain⟨q,h7,h8⟩:=m2.2 j ls[j] (Zl hlj)
  rw[Zl hi] at h5;cases h5
  rw[Zl hj] at h7;cases h7
  have h8':E.r ls[j].1=ς (bs[i].1,bs[j].2):=by rw[h8,e]
  have:=hR.ok.inj _ _ _ _ _ h6 h8'
  have:=nl (Zl hli) (Zl hlj) this
  omega
 have hmono:Dl w E.G T0 cx.w0.heap.size res us bs:=by
  refine SB (T:=λb k=>∃o l c,E.r o=ς (b,c)/\(∃ty sz els,go st.ob o=ς (.row ty sz els (.s l) ζ))/\E.T l k) m1 (λb c hm k ⟨o,l,c',q1,q2,q3⟩=>?_)
  obtain⟨q,q4,q5⟩:=hbl (b,c) hm
  have:=hR.ok.inj _ _ _ _ _ q1 q5
  subst this
  obtain⟨ty,sz,els,q6⟩:=m3 q q4
  obtain⟨ty',sz',els',q2⟩:=q2
  rw[q6] at q2;cases q2
  exact⟨q.1,q.2,c',q4,q1,q3⟩
 have hm:(fn.results.mapM (jC a.tmps)).run P w= .ok us.toArray w:=by
  rw[<-Array.toArray_toList (xs:=fn.results),List.mapM_toArray]
  simp only[Sem.run_map,k1]
  rfl
 have hrun:=IE hm
 have tail:(∀b k,T0 b k->∃l,E.T l k)/\(∀p∈bs,∃l,E.r l=ς p)/\(∀b b' k,T0 b k->T0 b' k->b=b'):=
  ⟨λb k ⟨o,l,c,_,_,h⟩=>⟨l,h⟩,λp hp=>(hbl p hp).elim λq h=>⟨q.1,h.2⟩,λb b' k ⟨o,l,c,q1,q2,q3⟩ ⟨o',l',c',q1',q2',q3'⟩=>by
   have:=hR.ok.sf.tt _ _ _ q3 q3';subst this
   have:=nl2 q1 q1' rfl;cases this
   rw[q2] at q2';cases q2';rfl⟩
 match res,us,hmono with
 |[],[],hmono=>exact⟨.tuple #[],T0,bs,by simpa using hrun,⟨#[],rfl,hmono⟩,hnd,tail⟩
 |[r],[u],hmono=>
  obtain⟨b1,b2,rfl,q1,q2⟩:=hmono
  have q2:b2=[]:=q2
  subst q2
  exact⟨u,T0,_,by simpa using hrun,by rw[List.append_nil];exact q1,hnd,tail⟩
 |r1::r2::rs,u1::u2::us,hmono=>exact⟨.tuple (u1::u2::us).toArray,T0,bs,by simpa using hrun,⟨_,rfl,hmono⟩,hnd,tail⟩
 |[],_::_,hmono=>exact hmono.elim
 |_::_,[],hmono=>exact hmono.elim
 |[_],_::_::_,hmono=>obtain⟨_,_,_,_,h⟩:=hmono;exact h.elim
 |_::_::_,[_],hmono=>obtain⟨_,_,_,_,h⟩:=hmono;exact h.elim
def GN(N:Nat)(P:Program)(rs:List ResultVar)(res:List RV):Exit->St->Prop
 | .normal,s| .ret,s=>∃s',cB N s s'/\Xb P rs res s'
 |_,_=>False
instance {N:Nat} {P:Program} {rs:List ResultVar} {res:List RV}:Clo N (GN N P rs res):=⟨λe s m hw h=>by
 cases e<;>simp only[GN] at h ⊢<;>first|exact h|(obtain⟨s',h1,h2⟩:=h;exact⟨s',aK hw h1,h2⟩)⟩
theorem XA{fn:Func}{c:Code}{args:List AV}(hf:P.funcs[f]?=ς fn)(hb:fn.body=ς c)(hnm:(fn.name== "runtime.NumGoroutine")=η)(hN:fn.ntmps=N)(hrs:fn.results.toList=rs)(ha:Zw args.length N=ζ)(h:AWC P N c ⟨pT 0 args,[],0⟩ (GN N P rs res)):FnU P f args res:=by
 refine⟨λvs w=>by simp_all[callFunc],λF w vals hF hT hA=>?_⟩
 subst hrs
 refine calls_of_wp hf hb ?_
 let E:Env:={r:=λ_=>ξ,F:=F,G:=λ_=>False}
 obtain⟨h1,h2⟩:=xL (E:=E) (F:=F) rfl 0 hA
 have hle:args.length<=N:=ZK ha
 have hsz:vals.size=args.length:=by simpa using h1
 have hR:Rel N ⟨w,λ_=>False,λ_=>ξ,λ_=>True,λ_=>False,⟨hT,λ_ _ h=>h⟩,λ_=>False⟩ E ⟨pT 0 args,[],0⟩ {tmps:=vals++Array.replicate (fn.ntmps-vals.size) undef,defers:=[]} w:=by
  refine⟨⟨hF,λ_ h=>h.elim,λ_ h=>h.elim,(λ_ _ _ h=>by cases h),(λ_ _ _ _ _ h=>by cases h),rfl,rfl,rfl,Zu _,λ_ _ _=>rfl,(λ_ _ _ h=>by cases h),λ_ _=>.inl trivial,λb h h'=>absurd (hF b h) (Nat.not_lt.2 (h'.resolve_right λh=>h.2.1)),⟨λ_ _ h=>h.elim,λ_ _ _ h=>h.elim,λ_ h=>h.elim,λ_ h=>h.elim,λ_ h=>h.elim⟩⟩,(λ_ _ h=>by cases h),(λ_ _ h=>by cases h),λk=>?_,rfl,by simp;omega,λ_ _ h=>h.elim⟩
  by_cases hk:k<args.length
  .obtain⟨u,h3,h4⟩:=(h2 k).1 ⟨Nat.zero_le _,by omega⟩
   have:(vals++Array.replicate (fn.ntmps-vals.size) undef).getD k undef=u:=by
    have h5:vals[k]?=ς u:=by simpa using h3
    have h6:(vals++Array.replicate (fn.ntmps-vals.size) undef)[k]?=ς u:=by rw[Array.getElem?_append_left oaa];exact h5
    simp[h6]
   simp_all
  have:=(h2 k).2 oaa
  show cvT _ w (gt (pT 0 args) k) _
  rw[this];trivial
 refine wp_mono (h _ E _ w hR) ?_
 rintro e a' w' ⟨E',s',hR',hq⟩
 have fin:(∃s'',cB N s' s''/\Xb P fn.results.toList res s'')->
  a'.defers=[]/\∃v,(results fn a'.tmps).run P w'= .ok v w'/\∃(v':Value) (G:Nat->Prop) (T:Nat->Nat->Prop) (bs:Lac),Ending.returned v= .returned v'/\zk w w' (λ_=>False)/\(∀b,G b->w.heap.size<=b/\b<w'.heap.size/\eJ w' b)/\
   OK w' G T w.heap.size res v' bs/\(bs.map (·.1)).Nodup/\(∀b k,T b k->(w.heap.size<=k/\k<w'.heap.size/\eJ w' k)/\¬G k/\(∀p∈bs,p.1≠k))/\(∀b b' k,T b k->T b' k->b=b'):=by
  rintro⟨s'',hw,hfin⟩
  obtain⟨E'',hR''⟩:=hw _ _ _ _ hR'
  obtain⟨v,T,bs,k1,k2,k3,k4,k5,k6⟩:=UW hR'' (λb h=>h.resolve_right λh=>h.1) hfin
  have ok:=hR''.ok
  exact⟨hR''.dfr,v,k1,v,E''.G,T,bs,rfl,⟨ok.os,ok.tape,ok.output,ok.size,ok.block⟩,λb hb=>⟨(ok.gn b hb).resolve_right id,ok.fb b (ok.gf b hb),ok.gc b (ok.gf b hb) (.inl ((ok.gn b hb).resolve_right id))⟩,k2,k3,
   λb k hk=>by
    obtain⟨l,hl⟩:=k4 b k hk
    obtain⟨⟨q1,q2⟩,q3,q4,q5⟩:=ok.sf.tb l k hl
    exact⟨⟨q2.resolve_right λh=>h.1,q1,q5⟩,λhg=>q3 (ok.gf k hg),λp hp e=>(k5 p hp).elim λo ho=>q4 o p.2 (by rw[ho,<-e])⟩,k6⟩
 cases e with
 |normal=>exact fin hq
 |ret=>exact fin hq
 |_=>exact hq.elim
theorem Fk{fn:Func}{c:Code}{args:List AV}{sl0:List (Nat×AM.T)}(hf:P.funcs[f]?=ς fn)(hb:fn.body=ς c:=by exact rfl)(hnm:(fn.name== "runtime.NumGoroutine")=false:=by kernel_rfl)(hN:fn.ntmps=N)(hrs:fn.results.toList=rs:=by exact rfl)(ha:Zw args.length N=true:=by exact rfl)(hs:E6 0 args=ς sl0:=by exact rfl)(h:AWC P N c ⟨sl0,[],0⟩ (GN N P rs res)):FnU P f args res:=by
 rw[AF hs] at h
 exact XA hf hb hnm hN hrs ha h
theorem ye{res':List RV}{vs:List V}{ls:Lac}(h:it P s rs vs:=by repeat' (first|exact .nil|apply it.cons|exact .tmp rfl|exact .cell rfl rfl rfl|exact .cell1 rfl rfl))(he:zw s.ob vs=ς (res',ls):=by exact rfl)(hr:res'=res:=by first|rfl|simp)(h1:gm (ls.map (·.1))=true:=by exact rfl)(h2:gm (ls.map (·.2))=true:=by exact rfl):GN N P rs res .ret s:=by
 subst hr;exact⟨s,jv s,vs,ls,h,he,h1,h2⟩
theorem FnU.fn{args:List AV}(h:FnU P f args res):Fn P f args res:=by
 refine⟨h.enters,λF w vals hF hT hA=>(h.calls F w vals hF hT hA).mono ?_⟩
 rintro e w' ⟨v,G,T,bs,he,hp,hG,hres,hnd,hT,hTT⟩
 exact⟨v,λk=>G k\/∃p∈bs,T p.1 k,bs,he,hp,λb hb=>hb.elim (hG b) (λ⟨p,_,h⟩=>(hT _ _ h).1),Yo hres (λ_ h=>.inl h) (λp hp k hk=>.inr ⟨p,hp,hk⟩) (λp hp h=>h.elim (λh=>h) λ⟨q,_,h⟩=>absurd rfl ((hT _ _ h).2.2 p hp)),hnd⟩
def mgG(gs:List (Option Nat))(l:Nat):Gr->Option Gr
 | .b g=>ς (.b g)
 | .s k=>match xg k gs with
  |true=>ς (.s l)
  |false=>ς (.s k)
 | .t k=>match xg k gs with
  |true=>ς (.t l)
  |false=>ς (.t k)
def mgC(gs:List (Option Nat))(l:Nat):C->Option C
 | .d g x=>match mgG gs l g with
  |some g'=>ς (.d g' x)
  |none=>ξ
 | .q g x j=>match mgG gs l g with
  |some g'=>ς (.q g' x j)
  |none=>ξ
 | .r k x=>match xg k gs with
  |true=>ς (.r l x)
  |false=>ς (.r k x)
 |c=>ς c
def mgO(gs:List (Option Nat))(l:Nat):Nat->Ob->Option Ob
 |_,.row t sz els g m=>match mgG gs l g with
  |some g'=>ς (.row t sz els g' m)
  |none=>ξ
 |_,.rown t sz els g=>match mgG gs l g with
  |some g'=>ς (.rown t sz els g')
  |none=>ξ
 |_,.abs k y=>match xg k gs with
  |true=>ς (.abs l y)
  |false=>ς (.abs k y)
 |_,.var t cs=>ς (.var t cs)
theorem FK{gs:List (Option Nat)}{g g':Gr}(h:mgG gs l g=ς g'):g'=g.rg (mgs gs l):=by
 cases g with
 |b g=>cases h;rfl
 |s k=>
  simp only[mgG] at h
  split at h
  .rename_i h1;cases h;simp[Gr.rg,mgs,h1]
  rename_i h1;cases h;simp[Gr.rg,mgs,h1]
 |t k=>
  simp only[mgG] at h
  split at h
  .rename_i h1;cases h;simp[Gr.rg,mgs,h1]
  rename_i h1;cases h;simp[Gr.rg,mgs,h1]
theorem Rt{gs:List (Option Nat)}{c c':C}(h:mgC gs l c=ς c'):c'=c.rg (mgs gs l):=by
 cases c with
 |d g x=>
  simp only[mgC] at h
  split at h
  .rename_i h1;cases h;rw[FK h1];rfl
  cases h
 |q g x j=>
  simp only[mgC] at h
  split at h
  .rename_i h1;cases h;rw[FK h1];rfl
  cases h
 |r k x=>
  simp only[mgC] at h
  split at h
  .rename_i h1;cases h;simp[C.rg,mgs,h1]
  rename_i h1;cases h;simp[C.rg,mgs,h1]
 |_=>simp only[mgC] at h;cases h;rfl
theorem FJ{gs:List (Option Nat)}{l:Nat}:∀{cs cs':List C},jG (mgC gs l) cs=ς cs'->cs'=cs.map (C.rg (mgs gs l))
 |[],cs',h=>by simp[jG] at h;subst h;rfl
 |c::cs,cs',h=>by
  simp only[jG] at h
  split at h
  .rename_i h1 h2;cases h;rw[Rt h1,FJ h2];rfl
  cases h
theorem Ru{gs:List (Option Nat)}{v v':V}(h:Ay (mgC gs l) v=ς v'):v'=v.rg (mgs gs l):=by
 cases v with
 |c c=>
  simp only[Ay] at h
  split at h
  .rename_i h1;cases h;rw[Rt h1];rfl
  cases h
 |agg cs=>
  simp only[Ay] at h
  split at h
  .rename_i h1;cases h;rw[FJ h1];rfl
  cases h
theorem Mp{gs:List (Option Nat)}{l:Nat}:∀{cs cs':List V},uV (mgC gs l) cs=ς cs'->cs'=cs.map (V.rg (mgs gs l))
 |[],cs',h=>by simp[uV] at h;subst h;rfl
 |c::cs,cs',h=>by
  simp only[uV] at h
  split at h
  .rename_i h1 h2;cases h;rw[Ru h1,Mp h2];rfl
  cases h
theorem XZ{gs:List (Option Nat)}{v v':T}(h:sJ (mgC gs l) v=ς v'):v'=v.rg (mgs gs l):=by
 cases v with
 |v v=>
  simp only[sJ] at h
  split at h
  .rename_i h1;cases h;rw[Ru h1];rfl
  cases h
 |tup vs=>
  simp only[sJ] at h
  split at h
  .rename_i h1;cases h;rw[Mp h1];rfl
  cases h
 |any=>cases h;rfl
theorem B7{gs:List (Option Nat)}{l:Nat}:∀{sl sl':Lab},lL (mgC gs l) sl=ς sl'->sl'=xn (mgs gs l) sl
 |[],sl',h=>by simp[lL] at h;subst h;rfl
 |(k,t)::r,sl',h=>by
  simp only[lL] at h
  split at h
  .rename_i h1 h2;cases h;rw[XZ h1,B7 h2];rfl
  cases h
theorem rh{gs:List (Option Nat)}{l:Nat}:∀{ob ob':Laa},kr (mgC gs l) (mgO gs l) ob=ς ob'->ob'=uE (mgs gs l) ob
 |[],ob',h=>by simp[kr] at h;subst h;rfl
 |(k,x)::r,ob',h=>by
  cases x with
  |var t cs=>
   simp only[kr] at h
   split at h
   .rename_i h1 h2;cases h;rw[FJ h1,rh h2];rfl
   cases h
  |row t sz els g m=>
   simp only[kr,mgO] at h
   split at h
   .rename_i h1 h2
    split at h1
    .rename_i h3;cases h1;cases h;rw[FK h3,rh h2];rfl
    cases h1
   cases h
  |rown t sz els g=>
   simp only[kr,mgO] at h
   split at h
   .rename_i h1 h2
    split at h1
    .rename_i h3;cases h1;cases h;rw[FK h3,rh h2];rfl
    cases h1
   cases h
  |abs j y=>
   simp only[kr,mgO] at h
   split at h
   .rename_i h1 h2
    cases h
    rw[rh h2]
    split at h1
    .rename_i h3;cases h1;simp[uE,Ob.rg,mgs,h3]
    rename_i h3;cases h1;simp[uE,Ob.rg,mgs,h3]
   cases h
section
variable{P:Program}{N:Nat}{d:Tmp}{ty:TypeId}{ps:String}{af:Array Edge}{gd:Option (Nat×Bool)}{x y:Operand}{sl:Lab}{ob:Laa}{nx:Nat}{α:Type}{enc:α->List D}
end
theorem La{enc:α->List D}{g:Gr}(h:∀a,scB (enc a)=ζ):Tx l g (ys.map enc):=by
 have:∀e∈ys.map enc,scB e=true:=λe he=>by obtain⟨a,_,rfl⟩:=Z9.1 he;exact h a
 cases g with
 |b g=>exact this
 |s n=>exact .inr this
 |t n=>exact .inr this
theorem sa{rt:Nat}{g:Gr}{ob:Laa}{e1 e2:Lac}(o:Nat)(ho:go ob o=ς (.row rt sz els g ζ):=by exact rfl)(hs:lL (Do o) sl=ς sl1:=by exact rfl)(hb:kr (Do o) (K8 o) ob=ς ob1:=by exact rfl)(hrv:rsv o=false:=by exact rfl)(hl:nlt o nx=true:=by exact rfl)(ho1:go ob1 o=ς (.rown rt sz els g):=by exact rfl)(hs1:Pf o (.l els) o els.length sl1=ς (sl',e1):=by exact rfl)(hb1:uG o (.l els) o els.length ob1=ς (ob',e2):=by exact rfl)(h1:Eqs e1:=by repeat (first|exact θ|refine⟨by first|rfl|simp,?_⟩))(h2:Eqs e2:=by repeat (first|exact θ|refine⟨by first|rfl|simp,?_⟩))(hg:Tx o g els:=by first|exact Or.inl rfl|exact La (λ_=>rfl)):
 cB N ⟨sl,ob,nx⟩ ⟨sl',ob',nx⟩:=aK (gA o ho hs hb) (Li o o hrv hl ho1 hs1 hb1 h1 h2 hg)
def tkC(o:Nat)(els:Lad):C->Option ((D×Bool)×List Nat)
 | .w l n=>match d0 l o with
  |true=>ς ((.l els,ζ),[n])
  |false=>ξ
 | .d _ (.i k n)=>ς ((.i k n,η),[])
 | .d _ (.b b)=>ς ((.b b,η),[])
 | .d _ (.str s)=>ς ((.str s,η),[])
 |_=>ξ
def Pa(o:Nat)(els:Lad):List C->Option ((List D×List Bool)×List Nat)
 |[]=>ς (([],[]),[])
 |c::cs=>match tkC o els c,Pa o els cs with
  |some ((x,g),n),ς ((xs,gs),ns)=>ς ((x::xs,g::gs),n++ns)
  |_,_=>ξ
def Km:List Bool->Bool
 |[]=>ζ
 |true::r=>!(r.any λx=>x)
 |false::r=>Km r
theorem Ii:∀{gs:List Bool} {i j:Nat},Km gs=ζ->gs[i]?=ς ζ->gs[j]?=ς ζ->i=j
 |true::r,0,0,_,_,_=>rfl
 |true::r,0,j+1,h,_,h2=>by
  simp only[Km,ZD] at h
  have:r.any (λx=>x)=true:=ZG.2 ⟨ζ,Zk (by simpa using h2),rfl⟩
  rw[this] at h;cases h
 |true::r,i+1,0,h,h1,_=>by
  simp only[Km,ZD] at h
  have:r.any (λx=>x)=true:=ZG.2 ⟨ζ,Zk (by simpa using h1),rfl⟩
  rw[this] at h;cases h
 |true::r,i+1,j+1,h,h1,h2=>by
  simp only[Km,ZD] at h
  have:r.any (λx=>x)=true:=ZG.2 ⟨ζ,Zk (by simpa using h1),rfl⟩
  rw[this] at h;cases h
 |false::r,i+1,j+1,h,h1,h2=>congrArg (· +1) (Ii (gs:=r) h (by simpa using h1) (by simpa using h2))
 |false::r,0,_,_,h1,_=>by simp at h1
 |false::r,_+1,0,_,_,h2=>by simp at h2
theorem Y3{o c:Nat}{k:C}{x:D}{ns:List Nat}{T:Nat->Prop}(h:tkC o els k=ς ((x,g),ns))(hn:∀n∈ns,n=els.length)(hr:E.r o=ς (b,c))(hT:db w T els b)(hc:els.length<=c)(hx:A8 w b c els)(hk:cvC E w k u):
 eT w (λj=>g=ζ/\(T j\/j=b)) x u/\u.oneCell'=ζ/\u.cells= #[u]:=by
 cases k with
 |w l n=>
  simp only[tkC] at h
  split at h
  .rename_i h1;cases h
   have:=Zo h1;subst this
   obtain⟨b',c',h2,rfl⟩:=hk
   rw[hr] at h2;cases h2
   have e:=hn n (by simp)
   subst e
   exact⟨(hT.tree hc hx).keep (λ_ _=>rfl) λj hj=>⟨rfl,hj⟩,rfl,rfl⟩
  cases h
 |d gg x'=>
  have hrd:=jQ hk
  cases x' with
  |i k n=>simp[tkC] at h;obtain⟨⟨rfl,rfl⟩,rfl⟩:=h;exact⟨by rw[rdD] at hrd;rw[eT];exact hrd,iS (jQ hk),nk (jQ hk)⟩
  |b n=>simp[tkC] at h;obtain⟨⟨rfl,rfl⟩,rfl⟩:=h;exact⟨by rw[rdD] at hrd;rw[eT];exact hrd,iS (jQ hk),nk (jQ hk)⟩
  |str n=>simp[tkC] at h;obtain⟨⟨rfl,rfl⟩,rfl⟩:=h;exact⟨by rw[rdD] at hrd;rw[eT];exact hrd,iS (jQ hk),nk (jQ hk)⟩
  |k A n c=>simp[tkC] at h
  |l xs=>simp[tkC] at h
 |_=>simp[tkC] at h
theorem Ng{E:Env}{w:World}{o b c:Nat}{els:Lad}{T:Nat->Prop}(hr:E.r o=ς (b,c))(hT:db w T els b)(hc:els.length<=c)(hx:A8 w b c els):∀{cs:List C} {xs:List D} {gs:List Bool} {ns:List Nat} {us:Lae},Pa o els cs=ς ((xs,gs),ns)->(∀n∈ns,n=els.length)->CV E w cs us->
 xs.length=us.length/\∀(j:Nat) (xd:D),xs[j]?=ς xd->∃u g,us[j]?=ς u/\gs[j]?=ς g/\eT w (λj=>g=ζ/\(T j\/j=b)) xd u
 |[],xs,gs,ns,us,h,_,hk=>by
  simp[Pa] at h;obtain⟨⟨rfl,rfl⟩,rfl⟩:=h
  cases us with
  |nil=>exact⟨rfl,λj xd hj=>by simp at hj⟩
  |cons _ _=>exact hk.elim
 |k::cs,xs,gs,ns,us,h,hn,hk=>by
  cases us with
  |nil=>exact hk.elim
  |cons u us=>
   simp only[Pa] at h
   split at h
   .rename_i x g n xs' gs' ns' h1 h2
    cases h
    obtain⟨k1,k2,k3⟩:=Y3 h1 (λn hn'=>hn n (by simp[hn'])) hr hT hc hx hk.1
    obtain⟨m1,m2⟩:=Ng hr hT hc hx h2 (λn hn'=>hn n (by simp[hn'])) hk.2
    refine⟨by simp[m1],λj xd hj=>?_⟩
    cases j with
    |zero=>simp at hj;subst hj;exact⟨u,g,rfl,rfl,k1⟩
    |succ j=>obtain⟨u',g',q1,q2,q3⟩:=m2 j xd (by simpa using hj);exact⟨u',g',by simpa using q1,by simpa using q2,q3⟩
   cases h
section
variable{P:Program}{N:Nat}{d:Tmp}{ty:TypeId}{ps:String}{af:Array Edge}{gd:Option (Nat×Bool)}{p:Operand}{sl:Lab}{ob:Laa}{nx:Nat}
theorem U6{by_ o rt rz:Nat}{gs:List Bool}{ms:List Nat}[ht:da P t e sz by_](hv:Pa o els cs=ς ((ns,gs),ms))(hms:∀n∈ms,n=els.length)(hg:Km gs=ζ)(hs:d0 ns.length sz=ζ)(h24:Zw sz 16777216=ζ)(hrv:rsv o=η):
 AWK P ⟨ς d,.buildSlice t 1 #[(0,p)],ty,ps,af,gd⟩ [(p,.v (.agg cs))] [(o,.row rt rz els (.s o) ζ)] (.v (.c (.w q 1))) [(q,.row e sz [ns] (.s o) ζ)] [] (ς o):=by
 intro cx E a w ok hne hnob hfr
 obtain⟨hq1,hq2⟩:=hfr q _ (.head _)
 obtain⟨uarr,hup,hcv⟩:cvV E w (.agg cs) (a.eval p):=hne p _ (.head _)
 obtain⟨bo,co,arro,hro,hho,hao,hlo,hmo,heo,hrdo,hFo,_,hTo⟩:=hnob o _ (.head _)
 have hTo:db w (E.T o) els bo:=hTo
 have hF:=hFo rfl
 obtain⟨v1,v2⟩:=Ng hro hTo hlo ⟨_,_,_,hho,hao,hmo,heo⟩ hv hms hcv
 have hsz:=Zo hs
 have hall:∀u∈uarr.toList,∃x,rdD w (λ_=>True) x u:=λu hu=>by
  obtain⟨j,hj⟩:=List.getElem?_of_mem hu
  have hjl:j<ns.length:=by rw[v1];exact(v0.1 hj).1
  obtain⟨u',g,n1,n2,n3⟩:=v2 j _ (Zl hjl)
  rw[hj] at n1;cases n1
  exact⟨_,n3.rdF λ_ _=>trivial⟩
 have hcl:uarr.toList.length=sz:=by rw[<-v1];exact hsz
 have hb:=tW (P:=P) (d:=ς d) (ty:=ty) (ps:=ps) (af:=af) (gd:=gd) (t:=t) (e:=e) (sz:=sz) (by_:=by_) (len:=1) (l:=q) (parts:=[(0,p)]) (vs:=[.agg (uarr.toList.map λu=>.d (.b ζ) (exV u))]) (els:=[uarr.toList.map exV]) (g:=ζ) rfl rfl rfl (by simp[vsD,vD,JO hall]) (by simp[J6];simpa using hcl) (by have:=ZK h24;omega)
  cx E a w ok (λx t hm=>by simp at hm;obtain⟨rfl,rfl⟩:=hm;exact⟨uarr,hup,Pz hall⟩) (λ_ _ h=>by cases h) (λl ob hm=>by simp at hm;obtain⟨rfl,rfl⟩:=hm;exact⟨hq1,hq2⟩)
 refine Oper.wp_mono ?_ hb
 rintro a' w' ⟨u,E1,rfl,ok1,ext,hvu,hob,hdom⟩
 obtain⟨b,c,arr,hr',hh,ha,hlc,hmx,hes,hrd,hFb,_⟩:=hob _ _ (.head _)
 have hro1:E1.r o=ς (bo,co):=ext.r _ _ hro
 have hoq:o≠q:=λe=>by rw[e,hq1] at hro;cases hro
 have hbb:b≠bo:=λe=>hoq (ok1.inj o q bo co c hro1 (e▸hr'))
 have hw:∀k,k<w.heap.size->w'.heap[k]?=w.heap[k]?:=ext.heap
 have hbo:=(ok.rb o bo co hro).1
 obtain⟨E2,hE2⟩:∃E2:Env,E2={E1 with r:=λl=>if l=o then ξ else E1.r l,T:=λl k=>E1.T l k\/(l=o/\k=bo)}:=⟨_,rfl⟩
 have e_r:∀l x,E2.r l=ς x↔l≠o/\E1.r l=ς x:=λl x=>by
  subst hE2
  show(if l=o then ξ else E1.r l)=ς x↔_
  split<;>simp_all
 have e_T:∀l k,E2.T l k↔E1.T l k\/(l=o/\k=bo):=λl k=>by subst hE2;exact Iff.rfl
 have e_F:E2.F=E1.F:=by subst hE2;rfl
 have e_G:E2.G=E1.G:=by subst hE2;rfl
 have e_Z:E2.Z=E1.Z:=by subst hE2;rfl
 have e_n:E2.n=E1.n:=by subst hE2;rfl
 have hF1:¬E1.F bo:=λh=>(ext.F' bo h).elim hF (λh=>by omega)
 have hin:cx.In bo:=((ok.rb o bo co hro).2).resolve_right (λh=>by rw[hrv] at h;exact absurd h.2 (by decide))
 have ok2:cF cx E2 w':=by
  refine⟨by rw[e_F];exact ok1.fb,by rw[e_F,e_G];exact ok1.gf,by rw[e_G];exact ok1.gn,λl k z h=>ok1.rb l k z ((e_r _ _).1 h).2,λl l' k z z' h h'=>ok1.inj l l' k z z' ((e_r _ _).1 h).2 ((e_r _ _).1 h').2,ok1.os,ok1.tape,ok1.output,ok1.size,ok1.block,λl x hx h=>ok1.pin l x hx ((e_r _ _).1 h).2,by rw[e_F];exact ok1.ff,by rw[e_F];exact ok1.gc,⟨λl k h=>?_,λl l' k h h'=>?_,λk h=>?_,ok1.sf.zs,by rw[e_Z];exact ok1.sf.ze⟩⟩
  .rcases(e_T l k).1 h with h|⟨rfl,rfl⟩
   .obtain⟨k1,k2,k3,k4⟩:=ok1.sf.tb l k h
    exact⟨k1,by rw[e_F];exact k2,λl' z hz=>k3 l' z ((e_r _ _).1 hz).2,k4⟩
   exact⟨⟨(ok1.rb _ _ _ hro1).1,hin⟩,by rw[e_F];exact hF1,λl' z hz=>((e_r _ _).1 hz).1 (ok1.inj _ _ _ _ _ ((e_r _ _).1 hz).2 hro1),.mk ((hw k hbo).trans hho)⟩
  .rcases(e_T l k).1 h with h|⟨rfl,rfl⟩<;>rcases(e_T l' k).1 h' with h'|⟨rfl,h'⟩
   .exact ok1.sf.tt l l' k h h'
   .subst h';exact absurd hro1 ((ok1.sf.tb l k h).2.2.1 _ _)
   .exact absurd hro1 ((ok1.sf.tb l' _ h').2.2.1 _ _)
   rfl
  obtain⟨k1,k2,k3,k4⟩:=ok1.sf.zc k h
  exact⟨k1,by rw[e_F];exact k2,λl' z hz=>k3 l' z ((e_r _ _).1 hz).2,k4⟩
 have hcell:∀(j:Nat) (xd:D),ns[j]?=ς xd->∃u' g,w'.cell? ⟨b,j,ξ⟩=ς u'/\gs[j]?=ς g/\eT w (λk=>g=ζ/\(E.T o k\/k=bo)) xd u':=λj xd hj=>by
  obtain⟨c',g,c1,c2,c3⟩:=v2 j xd hj
  have hj2:(uarr.toList.map exV)[j]?=ς (exV c'):=by rw[ZH,c1];rfl
  have hr2:rdL w' (E1.H ζ) (uarr.toList.map exV) b 0:=by rw[rdLL] at hrd;exact hrd.1
  obtain⟨u',u1,u2⟩:=iA hr2 hj2
  rw[Zs] at u1
  have:=(DI (w':=w) (F':=E.F) c3.rd).2.2 _ _ _ u2
  subst this
  exact⟨u',g,u1,c2,c3⟩
 have hTr:db w' (E2.T o) [ns] b:=by
  refine db.iff.2 ⟨λk b'=>gs[k]?=ς ζ/\(E.T o b'\/b'=bo),⟨λk b' hk=>?_,λk k' b' hk hk'=>Ii hg hk.1 hk'.1⟩,λj xd hj=>?_⟩
  .refine⟨(e_T _ _).2 (hk.2.imp (ext.T _ _) λh=>⟨rfl,h⟩),λe=>?_⟩
   subst e
   rcases hk.2 with h|h
   .exact(ok1.sf.tb o b' (ext.T _ _ h)).2.2.1 _ _ hr'
   exact hbb h
  simp at hj
  obtain⟨u',g,u1,u2,u3⟩:=hcell j xd hj
  refine⟨u',u1,u3.keep (λb' hb'=>hw b' ?_) λb' hb'=>⟨by rw[u2,hb'.1],hb'.2⟩⟩
  rcases hb'.2 with h|h
  .exact(ok.sf.tb o b' h).1.1
  rw[h];exact hbo
 refine⟨u,E2,rfl,ok2,⟨λl x hl h=>(e_r _ _).2 ⟨λe=>hl (by rw[e]),ext.r _ _ h⟩,λk h=>by rw[e_F];exact ext.F k h,λk h=>by rw[e_G];exact ext.G k h,λk h=>(ext.F' k (by rw[e_F] at h;exact h)).imp id .inl,λk hk _ _=>hw k hk,(λ_ _ _ _ h=>by cases h),λl k z hl hz=>?_,λl k h=>(e_T _ _).2 (.inl (ext.T _ _ h)),λl k h=>?_,by rw[e_Z];exact ext.Z,by rw[e_n];exact ext.n⟩,?_,λl x hm=>?_,(λ_ _ h=>by cases h),λl x hl=>hdom l x ((e_r _ _).1 hl).2 |>.imp id λ⟨_,h⟩=>by simp at h;exact⟨_,by rw[h.1];exact .head _⟩⟩
 .cases hl;rw[hro] at hz;cases hz;exact hF
 .rcases(e_T l k).1 h with h|⟨rfl,rfl⟩
  .rcases ext.T' l k h with h|⟨h0,x,h⟩
   .exact .inl h
   by_cases e:l=o
   .subst e;rw[hro] at h0;cases h0
   exact .inr (.inl ⟨h0,x,(e_r _ _).2 ⟨e,h⟩⟩)
  exact .inr (.inr ⟨rfl,_,hro⟩)
 .obtain⟨b1,c1,h1,h2⟩:=hvu
  exact⟨b1,c1,(e_r _ _).2 ⟨hoq.symm,h1⟩,h2⟩
 simp at hm;obtain⟨rfl,rfl⟩:=hm
 exact⟨b,c,arr,(e_r _ _).2 ⟨hoq.symm,hr'⟩,hh,ha,by simpa using hlc,hmx,λe' he'=>by simp at he';subst he';exact hsz,hTr.rdT,λ_=>by rw[e_F];exact hFb rfl,(λh=>by cases h),hTr⟩
theorem bdkT{by_ rt rz nx':Nat}(o:Nat){gs:List Bool}{ms:List Nat}[da P t e sz by_](hx:opT sl p= .v (.agg cs):=by exact rfl)(ho:go ob o=ς (.row rt rz els (.s o) ζ):=by exact rfl)(hv:Pa o els cs=ς ((ns,gs),ms):=by exact rfl)(hms:∀n∈ms,n=els.length:=by simp)(hg:Km gs=true:=by exact rfl)(hs:d0 ns.length sz=true:=by exact rfl)(h24:Zw sz 16777216=true:=by exact rfl)(hrv:rsv o=false:=by exact rfl)(hnv:rsv nx=false:=by exact rfl)(hd:nlt d N=true:=by exact rfl)(hnx:nxt nx=ς nx':=by exact rfl):
 NX P N ⟨ς d,.buildSlice t 1 #[(0,p)],ty,ps,af,gd⟩ ⟨sl,ob,nx⟩ ⟨(d,.v (.c (.w nx 1)))::sl,(nx,.row e sz [ns] (.s o) ζ)::ob,nx'⟩ ⟨⟨d,[(p,.v (.agg cs))],[(o,.row rt rz els (.s o) ζ)],.v (.c (.w nx 1)),[(nx,.row e sz [ns] (.s o) ζ)]⟩,[],ς o⟩:=by
 refine⟨U6 hv hms hg hs h24 hrv,.inl ⟨rfl,bO hd⟩,⟨hx,θ⟩,⟨ho,θ⟩,ly hnx,rfl⟩
end
theorem AP(q l:Nat):mgs [ς q] l=mg q l:=by
 funext k
 unfold mgs mg
 simp only[xg]
 by_cases h:k=q
 .subst h;simp
 have h1:d0 k q=false:=gJ h
 have h2:d0 q k=false:=gJ (Ne.symm h)
 simp[h1,h2]
section
variable{P:Program}{N:Nat}{d:Tmp}{ty:TypeId}{ps:String}{af:Array Edge}{gd:Option (Nat×Bool)}{x y:Operand}{sl:Lab}{ob:Laa}{nx:Nat}{α:Type}{enc:α->List D}
theorem apTt{by_ o o2:Nat}{ys:List α}{a:α}[da P t e sz by_](H:cW by_ (ys++[a]).length=ζ)(hd:nlt d N=true:=by exact rfl)(hx:opT sl x= .v (.c (.w o n)):=by exact rfl)(hy:opT sl y= .v (.c (.w o2 1)):=by exact rfl)(ho:go ob o=ς (.row e sz (ys.map enc) (.s l) ζ):=by exact rfl)(ho2:go ob o2=ς (.row e sz [ns] (.s q) ζ):=by exact rfl)(henc:enc a=ns:=by exact rfl)(hrv:rsp o=false:=by exact rfl)(hlq:d0 l q=false:=by exact rfl)(hlx:nlt l nx=true:=by exact rfl)(hs1:lL (mgC [ς q] l) sl=ς sl1:=by exact rfl)(hs2:kr (mgC [ς q] l) (mgO [ς q] l) ob=ς ob1:=by exact rfl)(hk:gI o sl1=ς sl':=by exact rfl)(hkb:gP o ob1=ς ob':=by exact rfl)(hn:ys.length=n:=by first|rfl|simp):
 AWO P N ⟨ς d,.call ⟨.builtin .append,#[x,y],#[t,t]⟩,ty,ps,af,gd⟩ ⟨sl,ob,nx⟩ ⟨(d,.v (.c (.w o (ys++[a]).length)))::sl',(o,.row e sz ((ys++[a]).map enc) (.s l) ζ)::ob',nx⟩:=by
 subst henc;subst hn
 simp only[cW,decide_eq_true_eq,ZM,aa5] at H
 rw[B7 hs1,AP] at hk
 rw[rh hs2,AP] at hkb
 have:=Ki (P:=P) (N:=N) (d:=d) (ty:=ty) (ps:=ps) (af:=af) (gd:=gd) (nx:=nx) (t:=t) (e:=e) (sz:=sz) (by_:=by_) (n:=ys.length) (m:=1) (l:=l) (q:=q) hrv (bO hd) hx hy ho ho2 hlq hlx hk hkb (by simp) rfl H.1 H.2
 simpa using this
end
inductive TM where
 |y (o:Nat)
 |x (o:Nat)
 |j
 |k (l:Nat)
 |w (o:Nat)
 |s (l:Nat)
 |t
 |f
 |z
def TM.c:TM->Lad->Nat->C
 | .y o,_,n=>.wn o n
 | .x o,_,n=>.wn o n
 | .j,_,_=>.any
 | .k l,e,_=>.d (.t l) (.l e)
 | .w o,_,n=>.w o n
 | .s l,e,_=>.d (.s l) (.l e)
 | .t,e,_=>.d ζ (.l e)
 | .f,e,_=>.d η (.l e)
 | .z,_,_=>.nil
def kT:List TM->List F->List C
 |ms,.s d::r=>.d η d::kT ms r
 |m::ms,.l _ _ e n::r=>m.c e n::kT ms r
 |_,_=>[]
def TM.o:TM->Nat->Nat->Lad->Laa->Laa
 | .y o,a,b,e,r=>(o,.rown a b e ζ)::r
 | .x o,a,b,e,r=>(o,.rown a b e (.s o))::r
 | .w o,a,b,e,r=>(o,.row a b e (.s o) ζ)::r
 |_,_,_,_,r=>r
def rT:List TM->List F->Laa->Laa
 |ms,.s _::r,q=>rT ms r q
 |m::ms,.l t z e _::r,q=>m.o t z e (rT ms r q)
 |_,_,q=>q
def oT(ms:List TM)(o ty:Nat)(x:List F):Laa:=rT ms x [(o,.var ty (kT ms x))]
def m3:Lac:=[(190,190),(191,191),(192,192),(193,193),(194,194)]
def m4:Lac:=[(194,194),(190,190),(191,191),(192,192),(193,193),(200,200)]
structure MkS(P:Program)(f:FuncId)(xs xs':Lad)(k k':Int):Prop where
 enters:∀(vs:Array Value) (w:World),(callFunc f vs).run P w= .ok (.enter f vs) w
 calls:∀(w:World) (T:Nat->Prop) (A:Option Addr) (c:Nat) (vals:Array Value),TabsIn w->(∀b,T b->b<w.heap.size/\eJ w b)->(∀b∈nT,¬T b)->eT w T (.l xs) (.slice A xs.length c)->vals.toList=[.slice A xs.length c,.int .i64 k]->
  Calls P f vals w λe w'=>∃T':Nat->Prop,e= .returned (.int .i64 k')/\zk w w' T/\(∀b,T' b->(b<w'.heap.size/\(T b\/w.heap.size<=b))/\eJ w' b)/\eT w' T' (.l xs') (.slice A xs.length c)
theorem zy{sz j:Nat}{e:List D}{d x:D}:∀{zs:Lad} {i k:Nat},(∀e∈zs,e.length=sz)->zs[i]?=ς e->j<sz->(zs.set i (e.set j x)).flatten[k]?=ς d->(k=i*sz+j/\d=x)\/(k≠i*sz+j/\zs.flatten[k]?=ς d)
 |[],i,k,_,h,_,_=>by simp at h
 |z::zs,i,k,hs,h,hj,hk=>by
  have hz:=hs z (by simp)
  cases i with
  |zero=>
   simp at h;subst h
   rw[List.set_cons_zero,ZW] at hk
   rw[ZW,Nat.zero_mul,Zs]
   by_cases hl:k<sz
   .rw[Zt (by simp[hz,hl])] at hk
    by_cases e:k=j
    .subst e;rw[aa0 oaa] at hk;exact .inl ⟨rfl,(Option.some.inj hk).symm⟩
    rw[List.getElem?_set_ne (Ne.symm e)] at hk;exact .inr ⟨e,by rw[Zt oaa];exact hk⟩
   rw[Zr (by simp[hz];omega),List.length_set] at hk
   exact .inr ⟨by omega,by rw[Zr oaa];exact hk⟩
  |succ i=>
   rw[List.set_cons_succ,ZW] at hk
   rw[ZW]
   have hm:(i+1)*sz+j=i*sz+j+sz:=by rw[Nat.succ_mul];omega
   by_cases hl:k<sz
   .rw[Zt oaa] at hk
    exact .inr ⟨by omega,by rw[Zt oaa];exact hk⟩
   rw[Zr oaa,hz] at hk
   rcases zy (i:=i) (k:=k-sz) (λx hx=>hs x (by simp[hx])) (by simpa using h) hj hk with⟨h1,h2⟩|⟨h1,h2⟩
   .exact .inl ⟨by omega,h2⟩
   exact .inr ⟨by omega,by rw[Zr oaa,hz];exact h2⟩
section
variable{P:Program}{N:Nat}{ops:Array Oper}{lo:List Oper}{K:St->Prop}{sl:Lab}{ob:Laa}{nx:Nat}
end
theorem ixS{b:α}(H:ix ys i=ς a):ix (ys.set i.toNat b) i=ς b:=by
 have:=HS H
 obtain⟨h0,h1⟩:=ixE H
 unfold ix
 have e:leB 0 i=true:=by
  unfold ix at H;exact(rq H).1
 rw[e]
 show(ys.set i.toNat b)[i.toNat]?=ς b
 rw[aa0 oaa]
theorem setS{i:Nat}{b:α}:(ys.set i a).set i b=ys.set i b:=aa1 ..
section
variable{P:Program}{N:Nat}{ops:Array Oper}{lo:List Oper}{K:St->Prop}{sl:Lab}{ob:Laa}{nx:Nat}{α:Type}{enc:α->List D}{x y:Operand}{ty:TypeId}{ps:String}{af:Array Edge}{gd:Option (Nat×Bool)}
end
def swR(p q k:Nat):Nat:=bif d0 k p then q else bif d0 k q then p else k
theorem wR{ob:Laa}(p q:Nat)(hpn:nlt p nx=true:=by exact rfl)(hqn:nlt q nx=true:=by exact rfl):cB N ⟨sl,ob,nx⟩ ⟨xn (swR p q) sl,uE (swR p q) ob,nx⟩:=by
 intro cx E a w hR
 refine⟨_,MR (swR p q) (λk hk=>?_) (Zu _) hR⟩
 have h1:=bO hpn
 have h2:=bO hqn
 unfold swR
 cases d0 k p<;>cases d0 k q<;>first|exact hk|exact h1|exact h2
theorem wT{ob:Laa}(p q:Nat)(hp:rsv p=false:=by exact rfl)(hq:rsv q=false:=by exact rfl)(hpn:nlt p nx=true:=by exact rfl)(hqn:nlt q nx=true:=by exact rfl):cB N ⟨sl,ob,nx⟩ ⟨xn (swR p q) (swS p q sl),uE (swR p q) (swO p q ob),nx⟩:=aK (wS p q hp hq hpn hqn) (wR p q hpn hqn)
theorem Xi{o:Oper}{needs:List (Operand×T)}{g:Gr}{kl:Option Nat}(hg:∀e∈els,scB e=ζ)(h:AWK P o needs nob out [(q,.row e sz els g ζ)] [] kl):AWK P o needs nob out [(q,.row e sz els (.s l) ζ)] [] kl:=by
 intro cx E a w ok hne hnob hfr
 refine Oper.wp_mono ?_ (h cx E a w ok hne hnob (λl' x hm=>by simp only[aaX,Prod.mk.injEq] at hm;obtain⟨rfl,rfl⟩:=hm;exact hfr _ _ (.head _)))
 rintro a' w' ⟨v,E',k1,ok',k3,k4,k5,k6,k7⟩
 refine⟨v,E',k1,ok',k3,k4,λl' x hm=>?_,k6,λl' x hl=>?_⟩
 .simp only[aaX,Prod.mk.injEq] at hm
  obtain⟨rfl,rfl⟩:=hm
  obtain⟨b,c,arr,hr,hh,ha,hlc,hmx,hes,hrd,hF,_,_⟩:=k5 _ _ (.head _)
  have hT:db w' (E'.T l) els b:=db.flat hg hrd
  exact⟨b,c,arr,hr,hh,ha,hlc,hmx,hes,hT.rdT,hF,(λh=>by cases h),hT⟩
 rcases k7 l' x hl with h1|⟨ob,hm⟩
 .exact .inl h1
 simp only[aaX,Prod.mk.injEq] at hm
 obtain⟨rfl,rfl⟩:=hm
 exact .inr ⟨_,.head _⟩
section
variable{P:Program}{N:Nat}{d:Tmp}{ty:TypeId}{ps:String}{af:Array Edge}{gd:Option (Nat×Bool)}{x y:Operand}{sl:Lab}{ob:Laa}{nx:Nat}{α:Type}{enc:α->List D}
theorem Wu{by_ o nx':Nat}{ys zs:List α}{zd:Lad}{c:C}(ls:List Nat)[da P t e sz by_](H:cW by_ (ys++zs).length=ζ)(hzd:zs.map enc=zd:=by exact rfl)(henc:∀a,(enc a).length=sz:=by exact λ_=>rfl)(hfl:∀a,qd (enc a)=true:=by exact λ_=>rfl)(hsc:∀a,scB (enc a)=true:=by exact λ_=>rfl)(hp:oi ob ls=ς nob:=by exact rfl)(hd:nlt d N=true:=by exact rfl)(hx:opT sl x= .v (.c (.w o n)):=by exact rfl)(hy:opT sl y= .v (.c c):=by exact rfl)(hn:ys.length=n:=by first|rfl|simp)(hs:Src nob c zd gy:=by first|exact .d|exact .nil|exact .w rfl (by first|rfl|exact lm _|simp)|exact .wn rfl (by first|rfl|exact lm _|simp))(ho:go nob o=ς (.row e sz (ys.map enc) g ζ):=by exact rfl)(hrv:rsv o=false:=by exact rfl)(hnx:nxt nx=ς nx':=by exact rfl):
 NX P N ⟨ς d,.call ⟨.builtin .append,#[x,y],#[t,t]⟩,ty,ps,af,gd⟩ ⟨sl,ob,nx⟩ ⟨(d,.v (.c (.w nx (ys++zs).length)))::sl,(nx,.row e sz ((ys++zs).map enc) (.s nx) ζ)::ob,nx'⟩
  ⟨⟨d,[(x,.v (.c (.w o n))),(y,.v (.c c))],nob,.v (.c (.w nx (ys++zs).length)),[(nx,.row e sz ((ys++zs).map enc) (.s nx) ζ)]⟩,[],ς o⟩:=by
 obtain⟨h1,h2,h3,h4,h5,h6⟩:=E5 (P:=P) (N:=N) (t:=t) (x:=x) (y:=y) (enc:=enc) (d:=d) (ty:=ty) (ps:=ps) (af:=af) (gd:=gd) (sl:=sl) (ob:=ob) (nx:=nx) ls H hzd henc hfl hp hd hx hy hn hs ho hrv hnx
 exact⟨Xi (λe he=>by obtain⟨a,_,rfl⟩:=Z9.1 he;exact hsc a) h1,.inl ⟨rfl,bO hd⟩,h3,h4,ly hnx,rfl⟩
theorem Xg{by_ o o2:Nat}{ys:List α}{a:α}[da P t e sz by_](H:cW by_ (ys++[a]).length=ζ)(hd:nlt d N=true:=by exact rfl)(hx:opT sl x= .v (.c (.wn o n)):=by exact rfl)(hy:opT sl y= .v (.c (.w o2 1)):=by exact rfl)(ho:go ob o=ς (.rown e sz (ys.map enc) (.s l)):=by exact rfl)(ho2:go ob o2=ς (.row e sz [ns] (.s q) ζ):=by exact rfl)(henc:enc a=ns:=by exact rfl)(hrv:rsp o=false:=by exact rfl)(hnv:rsv nx=false:=by exact rfl)(hol:nlt o nx=true:=by exact rfl)(hlq:d0 l q=false:=by exact rfl)(hlx:nlt l nx=true:=by exact rfl)(hs1:lL (mgC [ς q] l) sl=ς sl1:=by exact rfl)(hs2:kr (mgC [ς q] l) (mgO [ς q] l) ob=ς ob1:=by exact rfl)(hk:gI o sl1=ς sl':=by exact rfl)(hkb:gP o ob1=ς ob':=by exact rfl)(hn:ys.length=n:=by first|rfl|simp):
 AWO P N ⟨ς d,.call ⟨.builtin .append,#[x,y],#[t,t]⟩,ty,ps,af,gd⟩ ⟨sl,ob,nx⟩ ⟨(d,.v (.c (.w o (ys++[a]).length)))::sl',(o,.row e sz ((ys++[a]).map enc) (.s l) ζ)::ob',nx⟩:=by
 subst henc;subst hn
 simp only[cW,decide_eq_true_eq,ZM,aa5] at H
 rw[B7 hs1,AP] at hk
 rw[rh hs2,AP] at hkb
 have:=Ig (P:=P) (N:=N) (d:=d) (ty:=ty) (ps:=ps) (af:=af) (gd:=gd) (nx:=nx) (t:=t) (e:=e) (sz:=sz) (by_:=by_) (n:=ys.length) (m:=1) (l:=l) (q:=q) hrv hnv (bO hd) hx hy ho ho2 hlq hlx hk hkb (by simp) rfl oaa (bO hol) H.1 H.2
 simpa using this
theorem obT{by_:Nat}{v:V}{gs:List (Option Nat)}{p:Operand}[ht:da P t e sz by_](hx:opT sl p= .v v:=by exact rfl)(hv:tvD v=ς (ns,gs):=by exact rfl)(hg:yu nx gs=true:=by exact rfl)(hs:d0 ns.length sz=true:=by exact rfl)(h24:Zw sz 16777216=true:=by exact rfl)(hrv:rsv nx=false:=by exact rfl)(hd:nlt d N=true:=by exact rfl)(hs1:lL (mgC gs nx) sl=ς sl':=by exact rfl)(hs2:kr (mgC gs nx) (mgO gs nx) ob=ς ob':=by exact rfl):
 AWO P N ⟨ς d,.buildSlice t 1 #[(0,p)],ty,ps,af,gd⟩ ⟨sl,ob,nx⟩ ⟨(d,.v (.c (.w nx 1)))::sl',(nx,.row e sz [ns] (.s nx) ζ)::ob',nx+1⟩:=by
 rw[B7 hs1,rh hs2]
 exact Ov hd hx hv hg hs h24 hrv
end
def Hid.lt(ty:TypeId)(sz b0 c0:Nat)(xs:Lad):Hid where
 nl:=False
 S:=λb c R w=>b=b0/\c=c0/\(∃arr,w.heap[b]?=ς (.cells arr ty (0,0))/\arr.size=c*sz)/\xs.length<=c/\c<=maxLen/\(∀e∈xs,e.length=sz)/\db w R xs b
 st:=by
  rintro b c R R' w w' ⟨h1,h2,⟨arr,h3,h4⟩,h5,h6,h7,h8⟩ hR hb hk
  exact⟨h1,h2,⟨arr,hb.trans h3,h4⟩,h5,h6,h7,h8.keep hb hk hR⟩
theorem J7{c:Nat}{xs:Lad}(h:cg E w q (.abs q (Hid.lt ty sz b c xs))):¬E.n q/\E.r q=ς (b,c)/\cg E w q (.row ty sz xs (.s q) ζ):=by
 rcases h with⟨_,h⟩|⟨hn,b',c',hr,⟨rfl,rfl,⟨arr,h1,h2⟩,h3,h4,h5,h6⟩,hF⟩
 .exact h.elim
 exact⟨hn,hr,b',c',arr,hr,h1,h2,h3,h4,h5,h6.rdT,λ_=>hF,(λh=>by cases h),h6⟩
theorem Yr{c:Nat}{xs:Lad}(hn:¬E.n q)(hr:E.r q=ς (b,c))(h:cg E w q (.row ty sz xs (.s q) ζ)):cg E w q (.abs q (Hid.lt ty sz b c xs)):=by
 obtain⟨b',c',arr,hr',h1,h2,h3,h4,h5,_,hF,_,h6⟩:=h
 rw[hr] at hr';cases hr'
 exact .inr ⟨hn,b,c,hr,⟨rfl,rfl,⟨arr,h1,h2⟩,h3,h4,h5,h6⟩,hF rfl⟩
section
variable{P:Program}{N:Nat}{sl sl1 sl2:Lab}{ob ob1:Laa}{nx:Nat}{AQ:Exit->St->Prop}
theorem NB{cd:Code}{o i:Nat}{rt:TypeId}{e:List D}{xs:Lad}(ho:go ob o=ς (.row rt sz els (.s o) ζ))(he:els[i]?=ς e)(hj:e[j]?=ς (.l xs))(hx:xs≠[])(hol:nlt o nx=ζ)(hrv:rsv nx=η)(h1:gI nx sl=ς sl1)(h2:ut o sl1=ς sl2)(h3:sx nx (sx o ob)=ob1)(h4:okO nx o ob1=ζ)(h:∀ty sz2 b c,(∀e∈xs,e.length=sz2)->AWC P N cd ⟨sl2,(nx,.abs nx (Hid.lt ty sz2 b c xs))::(o,.row rt sz (els.set i (e.set j (.k (ς ⟨b,0,ξ⟩) xs.length c))) (.s o) ζ)::ob1,nx+1⟩ AQ):AWC P N cd ⟨sl,ob,nx⟩ AQ:=by
 intro cx E a w hR
 have ok:=hR.ok
 obtain⟨b0,cb,arr0,hr0,hh0,ha0,hlc0,hmx0,hes0,hrd0,hF0,_,hT0⟩:=hR.obs o _ ho
 have hT0:db w (E.T o) els b0:=hT0
 obtain⟨Q,⟨q1,q2⟩,q3⟩:=db.iff.1 hT0
 have hel:e.length=sz:=hes0 e (Zk he)
 have hjs:j<sz:=by have:=(v0.1 hj).1;omega
 have hfl:els.flatten[i*sz+j]?=ς (.l xs):=by rw[uQ oaa hes0 i j hjs,he];exact hj
 obtain⟨u,hu,htr⟩:=q3 _ _ hfl
 rw[eT] at htr
 obtain⟨A,cc,hue,hlc,htr⟩:=htr
 rcases htr with hh|⟨b,Q2,hA,hQb,⟨s1,s2⟩,htll,arr,ty,sz2,hh,ha,hmx,hes⟩
 .exact absurd hh hx
 subst hA
 obtain⟨hTb,hbb⟩:=q1 _ _ hQb
 obtain⟨t1,t2,t3,t4⟩:=ok.sf.tb o b hTb
 obtain⟨E',hE'⟩:∃E':Env,E'={E with r:=λl=>if l=nx then ς (b,cc) else E.r l,T:=λl x=>(l=nx/\∃k,Q2 k x)\/(l≠nx/\E.T l x/\¬Q (i*sz+j) x),n:=λl=>l≠nx/\E.n l}:=⟨_,rfl⟩
 have e_r:∀l p,E'.r l=ς p↔(l=nx/\p=(b,cc))\/(l≠nx/\E.r l=ς p):=λl p=>by
  subst hE'
  grind
 have e_T:∀l x,E'.T l x↔(l=nx/\∃k,Q2 k x)\/(l≠nx/\E.T l x/\¬Q (i*sz+j) x):=λl x=>by subst hE';exact Iff.rfl
 have e_F:E'.F=E.F:=by subst hE';rfl
 have e_G:E'.G=E.G:=by subst hE';rfl
 have e_Z:E'.Z=E.Z:=by subst hE';rfl
 have e_n:∀l,E'.n l↔l≠nx/\E.n l:=λl=>by simp_all
 have e_H:∀(g:Bool),E'.H g=E.H g:=λg=>by cases g;exact e_F;exact e_G
 have hnx:∀l p,E.r l=ς p->l≠nx:=λl p h=>aaH (hR.dom l p h)
 have hnt:∀l x,E.T l x->l≠nx:=λl x h=>aaH (hR.td l x h)
 have hon:o≠nx:=aaH (bO hol)
 have hQo:∀k x,Q2 k x->Q (i*sz+j) x/\x≠b:=s1
 have ok':cF cx E' w:=by
  refine⟨by rw[e_F];exact ok.fb,by rw[e_F,e_G];exact ok.gf,by rw[e_G];exact ok.gn,λl x c h=>?_,λl l' x c c' h h'=>?_,ok.os,ok.tape,ok.output,ok.size,ok.block,λl p hp h=>?_,by rw[e_F];exact ok.ff,by rw[e_F];exact ok.gc,⟨λl x h=>?_,λl l' x h h'=>?_,λx h=>?_,ok.sf.zs,by rw[e_Z];exact ok.sf.ze⟩⟩
  .rcases(e_r _ _).1 h with⟨rfl,hp⟩|⟨_,h⟩
   .cases hp;exact⟨t1.1,.inl t1.2⟩
   exact ok.rb l x c h
  .rcases(e_r _ _).1 h with⟨rfl,hp⟩|⟨p1,h⟩<;>rcases(e_r _ _).1 h' with⟨rfl,hp'⟩|⟨p2,h'⟩
   .rfl
   .cases hp;exact absurd h' (t3 _ _)
   .cases hp';exact absurd h (t3 _ _)
   exact ok.inj l l' x c c' h h'
  .rcases(e_r _ _).1 h with⟨rfl,hp'⟩|⟨_,h⟩
   .rw[mn hrv] at hp;cases hp
   exact ok.pin l p hp h
  .rcases(e_T _ _).1 h with⟨rfl,k,hk⟩|⟨hl,h,hq⟩
   .obtain⟨k1,k2⟩:=hQo k x hk
    obtain⟨u1,u2,u3,u4⟩:=ok.sf.tb o x (q1 _ _ k1).1
    refine⟨u1,by rw[e_F];exact u2,λl c hl=>?_,u4⟩
    rcases(e_r _ _).1 hl with⟨_,hp⟩|⟨_,hl⟩
    .cases hp;exact k2 rfl
    exact u3 l c hl
   obtain⟨u1,u2,u3,u4⟩:=ok.sf.tb l x h
   refine⟨u1,by rw[e_F];exact u2,λl c hl=>?_,u4⟩
   rcases(e_r _ _).1 hl with⟨_,hp⟩|⟨_,hl⟩
   .cases hp;exact hq hQb
   exact u3 l c hl
  .rcases(e_T _ _).1 h with⟨rfl,k,hk⟩|⟨hl,h,hq⟩<;>rcases(e_T _ _).1 h' with⟨rfl,k',hk'⟩|⟨hl',h',hq'⟩
   .rfl
   .exact absurd (hQo k x hk).1 hq'
   .exact absurd (hQo k' x hk').1 hq
   exact ok.sf.tt l l' x h h'
  obtain⟨u1,u2,u3,u4⟩:=ok.sf.zc x h
  refine⟨u1,by rw[e_F];exact u2,λl c hl=>?_,u4⟩
  rcases(e_r _ _).1 hl with⟨_,hp⟩|⟨_,hl⟩
  .cases hp;exact ok.sf.tz hTb h
  exact u3 l c hl
 have kg:KG nx o E w E' w:=⟨λl p hl h=>(e_r _ _).2 (.inr ⟨hl,h⟩),λg x h=>by rw[e_H];exact h,λ_ _ _=>rfl,λl x hl h=>⟨(e_T _ _).2 (.inr ⟨hnt l x h,h,λhq=>hl (ok.sf.tt l o x h (q1 _ _ hq).1)⟩),rfl⟩,λx h=>⟨by rw[e_Z];exact h,oH.refl w x⟩,λl hl=>by rw[e_n];exact⟨λh=>h.2,λh=>⟨hl,h⟩⟩⟩
 have hT':db w (E'.T o) (els.set i (e.set j (.k (ς ⟨b,0,ξ⟩) xs.length cc))) b0:=by
  refine db.iff.2 ⟨λk x=>k≠i*sz+j/\Q k x,⟨λk x hk=>⟨(e_T _ _).2 (.inr ⟨hon,(q1 k x hk.2).1,λhq=>hk.1 (q2 _ _ _ hk.2 hq)⟩),(q1 k x hk.2).2⟩,λk k' x hk hk'=>q2 k k' x hk.2 hk'.2⟩,λjj d hd=>?_⟩
  rcases zy hes0 he hjs hd with⟨rfl,rfl⟩|⟨hne,hd⟩
  .exact⟨u,hu,by rw[eT];exact hue⟩
  obtain⟨u',v1,v2⟩:=q3 _ _ hd
  exact⟨u',v1,v2.keep (λ_ _=>rfl) λx hx=>⟨hne,hx⟩⟩
 have hes':∀e'∈els.set i (e.set j (.k (ς ⟨b,0,ξ⟩) xs.length cc)),e'.length=sz:=λe' hm=>by
  rcases aaW hm with h|h
  .exact hes0 e' h
  subst h;simpa using hel
 refine h ty sz2 b cc hes cx E' a w (F3 (zT hR ok' kg h1 h2 h3 h4 ⟨b0,cb,arr0,(e_r _ _).2 (.inr ⟨hon,hr0⟩),hh0,ha0,by simpa using hlc0,hmx0,hes',hT'.rdT,λ_=>by rw[e_F];exact hF0 rfl,(λh=>by cases h),hT'⟩
  (λ_ _ _ _ _ _=>rfl) (λl b' c' _ _ _ h=>by rw[e_F];exact h) (λl p h=>?_) (λl x h=>?_)) (.inr ⟨by rw[e_n];exact λh=>h.1 rfl,b,cc,(e_r _ _).2 (.inl ⟨rfl,rfl⟩),⟨rfl,rfl,⟨arr,hh,ha⟩,hlc,hmx,hes,⟨Q2,⟨λk x hk=>⟨(e_T _ _).2 (.inl ⟨rfl,k,hk⟩),(hQo k x hk).2⟩,s2⟩,htll⟩⟩,by rw[e_F];exact t2⟩))
 .rcases(e_r _ _).1 h with⟨rfl,_⟩|⟨_,h⟩
  .omega
  exact aaL (hR.dom l p h)
 rcases(e_T _ _).1 h with⟨rfl,_⟩|⟨_,h,_⟩
 .omega
 exact aaL (hR.td l x h)
end
section
variable{P:Program}{N:Nat}{ty:TypeId}{ps:String}{af:Array Edge}{gd:Option (Nat×Bool)}{x y:Operand}{sl:Lab}{ob:Laa}{nx:Nat}
theorem Kl{cx:Cx}{a:Act}(hR:Rel N cx E ⟨sl,ob,nx⟩ a w){o i:Nat}{rt:TypeId}{el el':List D}{gs:List (Option Nat)}{v:V}[ht:TyN P t n](hx:opT sl x= .v (.c (.e o sz i j)))(hy:opT sl y= .v v)(ho:go ob o=ς (.row rt sz els (.s l) ζ))(hv:tvD v=ς (ns,gs))(hg:yu l gs=ζ)(hl:nlt l nx=ζ)(hn:d0 ns.length n=ζ)(he:els[i]?=ς el)(hs:oA j ns el=ς el'):
 Oper.wp P (⟨ξ,.store t x y,ty,ps,af,gd⟩:Oper) a w (λa' w'=>Rel N cx (E.rg (mgs gs l)) ⟨xn (mgs gs l) sl,(o,.row rt sz (els.set i el') (.s l) ζ)::uE (mgs gs l) ob,nx⟩ a' w') (λ_ _ _=>False):=by
 have h1:=hR.op x;rw[hx] at h1
 have h2:=hR.op y;rw[hy] at h2
 obtain⟨b,c,hr,hu⟩:=h1
 obtain⟨b',c',arr,hr',hh,ha,hlc,hmx,hes,hrd,hFm,_,hT⟩:=hR.obs o _ ho
 rw[hr] at hr';cases hr'
 have hF:=hFm rfl
 obtain⟨v1,v2,v3⟩:=Ty hv h2
 have hnn:=Zo hn
 have hil:i<els.length:=(v0.1 he).1
 have hel:el.length=sz:=hes el (Zk he)
 obtain⟨hsp,hle⟩:=nY hs
 have hel':el'.length=sz:=by rw[hsp];simp;omega
 have hbound:i*sz+j+n<=arr.size:=by
  rw[ha]
  calc i*sz+j+n<=i*sz+sz:=by omega
   _=(i+1)*sz:=by grind
   _<=c*sz:=Nat.mul_le_mul_right _ oaa
 have hrun:=oB (P:=P) (t:=t) (n:=n) (k:=i*sz+j) oaa v2 hh hbound
 unfold Oper.wp
 simp only[execOp,hu,Sem.run_bind,hrun,Result.andThen_ok,Sem.run_pure,Oper.upon_skip,Act.put]
 have hes':∀e∈els.set i el',e.length=sz:=λe hm=>by
  rcases aaW hm with h|h
  .exact hes e h
  subst h;exact hel'
 have hf:∀k,k<nx->mgs gs l k<nx:=λk hk=>by
  unfold mgs
  cases xg k gs
  .exact hk
  exact bO hl
 have hR1:=Ky (mgs gs l) hf hR
 have hfl:mgs gs l l=l:=by unfold mgs;cases xg l gs<;>rfl
 have hTl:∀b,E.T l b->(E.rg (mgs gs l)).T l b:=λb h=>⟨l,hfl,h⟩
 have hlen:(a.eval y).cells.toList.length=n:=by simp;omega
 have hTr:db (w.setRow b (arr.toList.take (i*sz+j)++(a.eval y).cells.toList++arr.toList.drop (i*sz+j+n)).toArray) ((E.rg (mgs gs l)).T l) (els.set i el') b:=by
  obtain⟨Q,⟨q1,q2⟩,q3⟩:=db.iff.1 hT
  have hnb:∀k,¬E.T k b:=λk h=>(hR.ok.sf.tb k b h).2.2.1 o c hr
  refine db.iff.2 ⟨λk=>if i*sz+j<=k/\k<i*sz+j+ns.length then λb'=>∃g,gs[k-(i*sz+j)]?=ς g/\TL E g b' else Q k,⟨λk b' hk=>?_,λk k' b' hk hk'=>?_⟩,λjj d hd=>?_⟩
  .by_cases hin:i*sz+j<=k/\k<i*sz+j+ns.length
   .simp only[if_pos hin] at hk
    obtain⟨g,hg1,hg2⟩:=hk
    cases g with
    |none=>exact hg2.elim
    |some m=>
     refine⟨⟨m,?_,hg2⟩,λe=>hnb m (e▸hg2)⟩
     unfold mgs;rw[vO hg1];rfl
   simp only[if_neg hin] at hk
   exact⟨hTl _ (q1 k b' hk).1,(q1 k b' hk).2⟩
  .by_cases hin:i*sz+j<=k/\k<i*sz+j+ns.length
   .simp only[if_pos hin] at hk
    obtain⟨g,hg1,hg2⟩:=hk
    cases g with
    |none=>exact hg2.elim
    |some m=>
     by_cases hin':i*sz+j<=k'/\k'<i*sz+j+ns.length
     .simp only[if_pos hin'] at hk'
      obtain⟨g',hg1',hg2'⟩:=hk'
      cases g' with
      |none=>exact hg2'.elim
      |some m'=>
       have:=hR.ok.sf.tt _ _ _ hg2 hg2';subst this
       have:=AS hg hg1 hg1'
       omega
     simp only[if_neg hin'] at hk'
     exact(FZ hg hg1 (hR.ok.sf.tt _ _ _ hg2 (q1 _ _ hk').1)).elim
   simp only[if_neg hin] at hk
   by_cases hin':i*sz+j<=k'/\k'<i*sz+j+ns.length
   .simp only[if_pos hin'] at hk'
    obtain⟨g',hg1',hg2'⟩:=hk'
    cases g' with
    |none=>exact hg2'.elim
    |some m'=>exact(FZ hg hg1' (hR.ok.sf.tt _ _ _ hg2' (q1 _ _ hk).1)).elim
   simp only[if_neg hin'] at hk'
   exact q2 _ _ _ hk hk'
  rw[QM hes he hs hel'] at hd
  rw[dw (fC _ hh),List.getElem?_toArray,je (by simp;omega) (by simp;omega),hlen]
  by_cases hin:i*sz+j<=jj/\jj<i*sz+j+ns.length
  .rw[if_pos hin] at hd
   obtain⟨u,g,u1,u2,u3⟩:=v3 _ _ hd
   refine⟨u,?_,?_⟩
   .rw[if_pos oaa]
    simpa using u1
   simp only[if_pos hin]
   refine u3.keep (λb' hb'=>c8 _ _ _ _ ?_) (λb' hb'=>⟨g,u2,hb'⟩)
   cases g with
   |none=>exact hb'.elim
   |some m=>exact λe=>hnb m (e▸hb')
  rw[if_neg hin] at hd
  obtain⟨u,u1,u2⟩:=q3 _ _ hd
  refine⟨u,?_,?_⟩
  .rw[if_neg oaa];rw[dw hh] at u1;simpa using u1
  simp only[if_neg hin]
  exact u2.keep (λb' hb'=>c8 _ _ _ _ (Ne.symm (q1 _ _ hb').2).symm) (λ_ h=>h)
 refine qv (ob':=.row rt sz (els.set i el') (.s l) ζ) hR1 hr hF ⟨b,c,_,hr,fC _ hh,?_,by simpa using hlc,hmx,hes',?_,λ_=>hF,(λh=>by cases h),hTr⟩
 .simp;omega
 obtain⟨Q,q1,q2⟩:=hTr
 exact trLL_rd (λk b' hk=>(q1.1 k b' hk).1) q2
theorem Kk{i c:Nat}{rt:TypeId}{xs:Lad}{el el':List D}{gs:List (Option Nat)}{v:V}[ht:TyN P t n](hx:opT sl x= .v (.c (.e q sz i j)))(hy:opT sl y= .v v)(ho:go ob q=ς (.abs q (Hid.lt rt sz b c xs)))(hv:tvD v=ς (ns,gs))(hg:yu q gs=ζ)(hl:nlt q nx=ζ)(hn:d0 ns.length n=ζ)(he:xs[i]?=ς el)(hs:oA j ns el=ς el'):
 AWO P N ⟨ξ,.store t x y,ty,ps,af,gd⟩ ⟨sl,ob,nx⟩ ⟨xn (mgs gs q) sl,(q,.abs q (Hid.lt rt sz b c (xs.set i el')))::uE (mgs gs q) ob,nx⟩:=by
 intro cx E a w hR
 obtain⟨hn0,hr,hrow⟩:=J7 (hR.obs q _ ho)
 refine Oper.wp_mono ?_ (Kl (l:=q) (ob:=(q,.row rt sz xs (.s q) ζ)::ob) (F3 hR hrow) hx hy (bM _ _ _) hv hg hl hn he hs)
 intro a' w' hR'
 refine⟨_,hR'.ok,hR'.dom,λl y hy=>?_,hR'.sl,hR'.dfr,hR'.size,hR'.td⟩
 by_cases e:q=l
 .subst e
  rw[bM] at hy;cases hy
  exact Yr hn0 hr (hR'.obs q _ (bM _ _ _))
 rw[a9 _ _ e] at hy
 refine hR'.obs l y ?_
 rw[a9 _ _ e]
 simp only[uE]
 rw[a9 _ _ e]
 exact hy
theorem Ka{d:Option Tmp}{by_:Nat}{gx g:Gr}{kd:IntKind}{c:Nat}{rt:TypeId}{xs:Lad}[ht:da P t e sz by_](h0:0<=i)(h1:i<n):
 AWN P ⟨d,.indexAddr t x y,ty,ps,af,gd⟩ [(x,.v (.c (.d gx (.k (ς ⟨b,0,ξ⟩) n c)))),(y,.v (.c (.d g (.i kd i))))] [(q,.abs q (Hid.lt rt sz b c xs))] (.v (.c (.e q sz i.toNat 0))) []:=by
 intro cx E a w ok hn hb hf
 obtain⟨_,hr,_⟩:=J7 (hb q _ (.head _))
 have h2:cvT E w (.v (.c (.w q n))) (a.eval x):=by
  have:=jQ (hn x _ (.head _))
  rw[rdD] at this
  exact⟨b,c,hr,this⟩
 exact zK (P:=P) (d:=d) (ty:=ty) (ps:=ps) (af:=af) (gd:=gd) (g:=g) (kd:=kd) (t:=t) h0 h1 cx E a w ok (λz u hm=>by
  have:=hn y _ (.tail _ (.head _))
  simp only[Zp,Prod.mk.injEq,List.not_mem_nil,or_false] at hm
  rcases hm with⟨rfl,rfl⟩|⟨rfl,rfl⟩
  .exact h2
  exact this) (λ_ _ h=>by cases h) hf
end
theorem Lf{o i sz2 c:Nat}{rt:TypeId}{sl2:Lab}{ob:Laa}{e:List D}{xs:Lad}(ho:go ob o=ς (.row rt sz els (.s o) ζ))(he:els[i]?=ς e)(hj:e[j]?=ς (.k (ς ⟨b,0,ξ⟩) n c))(hq:go ob q=ς (.abs q (Hid.lt ty sz2 b c xs)))(hn:xs.length=n)(hoq:d0 o q=η)(hrv:rsv q=η)(h1:gI q sl=ς sl1)(h2:ut q sl1=ς sl2)(h3:sx q (sx o ob)=ob1)(h4:okO q q ob1=ζ):
 cB N ⟨sl,ob,nx⟩ ⟨sl2,(o,.row rt sz (els.set i (e.set j (.l xs))) (.s o) ζ)::ob1,nx⟩:=by
 intro cx E a w hR
 have ok:=hR.ok
 subst hn
 have hoq':o≠q:=λh=>by subst h;simp at hoq
 obtain⟨hn0,hr,bq,cq,arr,hr',hh,ha,hlc,hmx,hes,hrd,hF,_,hT⟩:=J7 (hR.obs q _ hq)
 rw[hr] at hr';cases hr'
 have hT:db w (E.T q) xs b:=hT
 have hF:=hF rfl
 obtain⟨b0,cb,arr0,hr0,hh0,ha0,hlc0,hmx0,hes0,hrd0,hF0,_,hT0⟩:=hR.obs o _ ho
 have hT0:db w (E.T o) els b0:=hT0
 obtain⟨Q,⟨q1,q2⟩,q3⟩:=db.iff.1 hT0
 have hel:e.length=sz:=hes0 e (Zk he)
 have hjs:j<sz:=by have:=(v0.1 hj).1;omega
 have hfl:els.flatten[i*sz+j]?=ς (.k (ς ⟨b,0,ξ⟩) xs.length c):=by rw[uQ oaa hes0 i j hjs,he];exact hj
 obtain⟨u,hu,htr⟩:=q3 _ _ hfl
 rw[eT] at htr
 have hb0:b≠b0:=λh=>by subst h;exact hoq' (ok.inj _ _ _ _ _ hr0 hr)
 have hin:cx.In b:=((ok.rb q b c hr).2).resolve_right (λh=>by rw[hrv] at h;exact absurd h.2 (by decide))
 obtain⟨E',hE'⟩:∃E':Env,E'={E with r:=λl=>if l=q then ξ else E.r l,T:=λl x=>(l≠q/\E.T l x)\/(l=o/\(E.T q x\/x=b))}:=⟨_,rfl⟩
 have e_r:∀l p,E'.r l=ς p↔l≠q/\E.r l=ς p:=λl p=>by
  subst hE'
  grind
 have e_T:∀l x,E'.T l x↔(l≠q/\E.T l x)\/(l=o/\(E.T q x\/x=b)):=λl x=>by subst hE';exact Iff.rfl
 have e_F:E'.F=E.F:=by subst hE';rfl
 have e_G:E'.G=E.G:=by subst hE';rfl
 have e_Z:E'.Z=E.Z:=by subst hE';rfl
 have e_n:E'.n=E.n:=by subst hE';rfl
 have e_H:∀(g:Bool),E'.H g=E.H g:=λg=>by cases g;exact e_F;exact e_G
 have hTb:∀l x,E.T l x->x≠b:=λl x h h'=>by subst h';exact(ok.sf.tb l x h).2.2.1 _ _ hr
 have ok':cF cx E' w:=by
  refine⟨by rw[e_F];exact ok.fb,by rw[e_F,e_G];exact ok.gf,by rw[e_G];exact ok.gn,λl x c h=>ok.rb l x c ((e_r _ _).1 h).2,λl l' x c c' h h'=>ok.inj l l' x c c' ((e_r _ _).1 h).2 ((e_r _ _).1 h').2,ok.os,ok.tape,ok.output,ok.size,ok.block,λl p hp h=>ok.pin l p hp ((e_r _ _).1 h).2,by rw[e_F];exact ok.ff,by rw[e_F];exact ok.gc,⟨λl x h=>?_,λl l' x h h'=>?_,λx h=>?_,ok.sf.zs,by rw[e_Z];exact ok.sf.ze⟩⟩
  .have key:∀l,E.T l x->(x<w.heap.size/\cx.In x)/\¬E'.F x/\(∀o c,E'.r o≠ς (x,c))/\eJ w x:=λl h=>by
    obtain⟨u1,u2,u3,u4⟩:=ok.sf.tb l x h
    exact⟨u1,by rw[e_F];exact u2,λl c hl=>u3 l c ((e_r _ _).1 hl).2,u4⟩
   rcases(e_T _ _).1 h with⟨_,h⟩|⟨rfl,h|rfl⟩
   .exact key _ h
   .exact key _ h
   exact⟨⟨(ok.rb _ _ _ hr).1,hin⟩,by rw[e_F];exact hF,λl z hz=>((e_r _ _).1 hz).1 (ok.inj _ _ _ _ _ ((e_r _ _).1 hz).2 hr),.mk hh⟩
  .rcases(e_T _ _).1 h with⟨hl,h⟩|⟨rfl,h⟩<;>rcases(e_T _ _).1 h' with⟨hl',h'⟩|⟨rfl,h'⟩
   .exact ok.sf.tt l l' x h h'
   .rcases h' with h'|rfl
    .exact absurd (ok.sf.tt _ _ _ h h') hl
    exact absurd rfl (hTb _ _ h)
   .rcases h with h|rfl
    .exact absurd (ok.sf.tt _ _ _ h' h) hl'
    exact absurd rfl (hTb _ _ h')
   rfl
  obtain⟨u1,u2,u3,u4⟩:=ok.sf.zc x h
  exact⟨u1,by rw[e_F];exact u2,λl c hl=>u3 l c ((e_r _ _).1 hl).2,u4⟩
 have kg:KG q q E w E' w:=⟨λl p hl h=>(e_r _ _).2 ⟨hl,h⟩,λg x h=>by rw[e_H];exact h,λ_ _ _=>rfl,λl x hl h=>⟨(e_T _ _).2 (.inl ⟨hl,h⟩),rfl⟩,λx h=>⟨by rw[e_Z];exact h,oH.refl w x⟩,λl hl=>by rw[e_n]⟩
 have hT':db w (E'.T o) (els.set i (e.set j (.l xs))) b0:=by
  refine db.iff.2 ⟨λk x=>(k=i*sz+j/\(E.T q x\/x=b))\/(k≠i*sz+j/\Q k x),⟨λk x hk=>?_,λk k' x hk hk'=>?_⟩,λjj d hd=>?_⟩
  .rcases hk with⟨_,hk⟩|⟨_,hk⟩
   .refine⟨(e_T _ _).2 (.inr ⟨rfl,hk⟩),λh=>?_⟩
    rcases hk with hk|rfl
    .subst h;exact(ok.sf.tb _ _ hk).2.2.1 _ _ hr0
    exact hb0 h
   exact⟨(e_T _ _).2 (.inl ⟨hoq',(q1 k x hk).1⟩),(q1 k x hk).2⟩
  .have hx:∀k,Q k x->¬(E.T q x\/x=b):=λk hq h=>by
    have h5:=(q1 k x hq).1
    rcases h with h|h
    .exact hoq' (ok.sf.tt _ _ _ h5 h)
    exact hTb _ _ h5 h
   rcases hk with⟨h1,hk⟩|⟨h1,hk⟩<;>rcases hk' with⟨h2,hk'⟩|⟨h2,hk'⟩
   .omega
   .exact absurd hk (hx _ hk')
   .exact absurd hk' (hx _ hk)
   exact q2 _ _ _ hk hk'
  rcases zy hes0 he hjs hd with⟨rfl,rfl⟩|⟨hne,hd⟩
  .refine⟨u,hu,?_⟩
   subst htr
   exact(hT.tree hlc ⟨_,_,_,hh,ha,hmx,hes⟩).keep (λ_ _=>rfl) λx hx=>.inl ⟨rfl,hx⟩
  obtain⟨u',v1,v2⟩:=q3 _ _ hd
  exact⟨u',v1,v2.keep (λ_ _=>rfl) λx hx=>.inr ⟨hne,hx⟩⟩
 have hes':∀e'∈els.set i (e.set j (.l xs)),e'.length=sz:=λe' hm=>by
  rcases aaW hm with h|h
  .exact hes0 e' h
  subst h;simpa using hel
 refine⟨E',zT hR ok' kg h1 h2 h3 h4 ⟨b0,cb,arr0,(e_r _ _).2 ⟨hoq',hr0⟩,hh0,ha0,by simpa using hlc0,hmx0,hes',hT'.rdT,λ_=>by rw[e_F];exact hF0 rfl,(λh=>by cases h),hT'⟩
  (λ_ _ _ _ _ _=>rfl) (λl b' c' _ _ _ h=>by rw[e_F];exact h) (λl p h=>hR.dom l p ((e_r _ _).1 h).2) (λl x h=>?_)⟩
 rcases(e_T _ _).1 h with⟨_,h⟩|⟨rfl,_⟩
 .exact hR.td l x h
 exact hR.dom _ _ hr0
section
variable{P:Program}{N:Nat}{d:Tmp}{ty:TypeId}{ps:String}{af:Array Edge}{gd:Option (Nat×Bool)}{x y:Operand}{sl:Lab}{ob:Laa}{nx:Nat}{α:Type}{enc:α->List D}
theorem xkT{by_ c:Nat}{gx g:Gr}{kd:IntKind}{rt:TypeId}{ys:List α}{a:α}(q:Nat)[da P t e sz by_](H:ix ys i=ς a)(hx:opT sl x= .v (.c (.d gx (.k (ς ⟨b,0,ξ⟩) n c))):=by exact rfl)(hy:opT sl y= .v (.c (.d g (.i kd i))):=by exact rfl)(ho:go ob q=ς (.abs q (Hid.lt rt sz b c (ys.map enc))):=by exact rfl)(hn:ys.length=n:=by first|rfl|simp)(hN:nlt d N=true:=by exact rfl):
 NS0 P N ⟨ς d,.indexAddr t x y,ty,ps,af,gd⟩ sl ob nx d (.v (.c (.e q sz i.toNat 0))) ⟨d,[(x,.v (.c (.d gx (.k (ς ⟨b,0,ξ⟩) n c)))),(y,.v (.c (.d g (.i kd i))))],[(q,.abs q (Hid.lt rt sz b c (ys.map enc)))],.v (.c (.e q sz i.toNat 0)),[]⟩:=
 c9 (st:=⟨sl,ob,nx⟩) (Ka (ixE H).1 (by have:=HS H;omega)) rfl hN ⟨hx,hy,θ⟩ ⟨ho,θ⟩ rfl
theorem stL{c:Nat}{rt:TypeId}{ys:List α}{a a':α}{gs:List (Option Nat)}{v:V}(q:Nat)[TyN P t n](H:ix ys i=ς a)(hx:opT sl x= .v (.c (.e q sz i.toNat j)):=by exact rfl)(hy:opT sl y= .v v:=by exact rfl)(ho:go ob q=ς (.abs q (Hid.lt rt sz b c (ys.map enc))):=by exact rfl)(hv:tvD v=ς (ns,gs):=by exact rfl)(hg:yu q gs=true:=by exact rfl)(hl:nlt q nx=true:=by exact rfl)(hn:d0 ns.length n=true:=by exact rfl)(hs:oA j ns (enc a)=ς (enc a'):=by exact rfl)(hs1:lL (mgC gs q) sl=ς sl':=by exact rfl)(hs2:kr (mgC gs q) (mgO gs q) ob=ς ob':=by exact rfl):
 AWO P N ⟨ξ,.store t x y,ty,ps,af,gd⟩ ⟨sl,ob,nx⟩ ⟨sl',(q,.abs q (Hid.lt rt sz b c ((ys.set i.toNat a').map enc)))::ob',nx⟩:=by
 rw[B7 hs1,rh hs2,abc]
 exact Kk hx hy ho hv hg hl hn (gk enc H) hs
end
theorem opn{sl2:Lab}{ob:Laa}{AQ:Exit->St->Prop}{β:Type}{enc:α->List D}{en2:β->List D}{cd:Code}{rt:TypeId}{zs:List β}(o k:Nat)(H:ix ys i=ς a)(hx:zs≠[])(hk:∀z,(en2 z).length=k)(ho:go ob o=ς (.row rt sz (ys.map enc) (.s o) ζ))(hj:(enc a)[j]?=ς (.l (zs.map en2)))(h1:gI nx sl=ς sl1)(h2:ut o sl1=ς sl2)(h3:sx nx (sx o ob)=ob1)(h4:okO nx o ob1=ζ)(hol:nlt o nx=ζ)(hrv:rsv nx=η)(w:∀ty b c,AWC P N cd ⟨sl2,(nx,.abs nx (Hid.lt ty k b c (zs.map en2)))::(o,.row rt sz ((ys.map enc).set i.toNat ((enc a).set j (.k (ς ⟨b,0,ξ⟩) zs.length c))) (.s o) ζ)::ob1,nx+1⟩ AQ):AWC P N cd ⟨sl,ob,nx⟩ AQ:=
 by
 refine NB ho (gk enc H) hj (by simpa using hx) hol hrv h1 h2 h3 h4 λty sz2 b c hs=>?_
 obtain⟨z,zs',rfl⟩:=List.exists_cons_of_ne_nil hx
 have:sz2=k:=(hs (en2 z) (by simp)).symm.trans (hk z)
 subst this
 simpa using w ty b c
theorem C7{ty:Nat}{g:Gr}{ob:Laa}(o:Nat)(ho:go ob o=ς (.rown ty sz els g):=by exact rfl)(hne:els≠[])(hs:lL (y9 o) sl=ς sl':=by exact rfl)(hb:kr (y9 o) (Dp o) ob=ς ob':=by exact rfl):cB N ⟨sl,ob,nx⟩ ⟨sl',ob',nx⟩:=by
 intro cx E a w hR
 have hn:¬E.n o:=by
  rcases hR.obs o _ ho with⟨_,h⟩|⟨h,_⟩
  .simp_all
  exact h
 have hf:∀c c' u,y9 o c=ς c'->cvC E w c u->cvC E w c' u:=by
  intro c c' u h hc
  cases c with
  |wn l n=>
   simp only[y9] at h
   split at h
   .rename_i hb
    have:=Zo hb
    subst this
    cases h
    rcases hc with⟨h1,_⟩|⟨_,h2⟩
    .simp_all
    exact h2
   simp_all
  |_=>simp only[y9] at h;simp_all
 refine⟨E,hR.ok,hR.dom,λl y hl=>?_,λk=>tU hf hs (hR.sl k),hR.dfr,hR.size,hR.td⟩
 rcases pf hb hl with⟨t,cs,cs',h1,h2,rfl⟩|⟨x,h1,h2,h3⟩
 .obtain⟨b,c,arr,k1,k2,k3,k4⟩:=hR.obs l _ h1
  exact⟨b,c,arr,k1,k2,oc hf h2 k3,k4⟩
 have hx:=hR.obs l x h1
 cases x with
 |var t cs=>simp_all
 |row t sz els g m=>simp only[Dp] at h3;simp_all
 |rown t sz els g=>
  simp only[Dp] at h3
  split at h3
  .rename_i hb
   have:=Zo hb
   subst this
   cases h3
   rcases hx with⟨k1,k2⟩|⟨_,b,c,arr,k1,k2,k3,k4,k5,k6,k7,k8⟩
   .simp_all
   exact⟨b,c,arr,k1,k2,k3,k4,k5,k6,k7,λ_=>k8.1,(λh=>by cases h),Cp rfl k8.2⟩
  simp_all
 |abs j y=>simp only[Dp] at h3;simp_all
theorem cls{c sz2:Nat}{rt:TypeId}{sl2:Lab}{ob:Laa}{β:Type}{enc:α->List D}{en2:β->List D}{a':α}{zs:List β}(o q:Nat)(H:ix ys i=ς a)(ho:go ob o=ς (.row rt sz ((ys.map enc).set i.toNat ((enc a).set j (.k (ς ⟨b,0,ξ⟩) n c))) (.s o) ζ))(hq:go ob q=ς (.abs q (Hid.lt ty sz2 b c (zs.map en2))))(hn:zs.length=n)(hjl:j<(enc a).length)(ha:(enc a).set j (.l (zs.map en2))=enc a')(hoq:d0 o q=η)(hrv:rsv q=η)(h1:gI q sl=ς sl1)(h2:ut q sl1=ς sl2)(h3:sx q (sx o ob)=ob1)(h4:okO q q ob1=ζ):cB N ⟨sl,ob,nx⟩ ⟨sl2,(o,.row rt sz ((ys.set i.toNat a').map enc) (.s o) ζ)::ob1,nx⟩:=by
 have hil:i.toNat<ys.length:=(v0.1 (ixE H).2).1
 have:=Lf (N:=N) (nx:=nx) ho (by rw[aa0 (by simpa using hil)]) (by rw[aa0 hjl]) hq (by simpa using hn) hoq hrv h1 h2 h3 h4
 rwa [aa1,aa1,ha,<-abc] at this
class FC(P:Program)(p:Prop)(f:outParam FuncId)(as:outParam (List AV))(rs:outParam (List RV)):Prop where
 h:p->Fn P f as rs
def T.isAny:T->Bool
 | .any=>ζ
 |_=>η
theorem T.isAny_eq{t:T}(h:t.isAny=ζ):t= .any:=by cases t<;>simp_all [T.isAny]
def fS:List Nat->Lab->Lab
 |_,[]=>[]
 |ks,(k,t)::r=>bif ia ks k then fS ks r else bif T.isAny t then fS (k::ks) r else(k,t)::fS (k::ks) r
def fO:List Nat->Laa->Laa
 |_,[]=>[]
 |ks,(k,x)::r=>bif ia ks k then fO ks r else(k,x)::fO (k::ks) r
def hasN(os:List Nat)(t:T):Bool:=os.any λo=>t.has o
def xS(os:List Nat):Lab->Lab
 |[]=>[]
 |(k,t)::r=>(k,bif hasN os t then .any else t)::xS os r
theorem Wz{k:Nat}:∀{sl:Lab} {ks:List Nat},gt (fS ks sl) k=bif ia ks k then .any else gt sl k
 |[],ks=>by simp[fS,gt]
 |(j,t)::r,ks=>by
  have ih:=λks=>Wz (k:=k) (sl:=r) (ks:=ks)
  rw[fS]
  cases hj:ia ks j with
  |true=>
   rw[cond_true,ih]
   by_cases h:j=k
   .subst h;rw[hj];rfl
   rw[b7 _ _ h]
  |false=>
   rw[cond_false]
   have hm:ia (j::ks) k=(d0 j k||ia ks k):=by
    by_cases h:j=k<;>simp_all [ia,gJ]
   cases ha:t.isAny with
   |true=>
    rw[cond_true,ih,hm]
    by_cases h:j=k
    .subst h;rw[hj,cG,T.isAny_eq ha];simp
    rw[b7 _ _ h,gJ h];rfl
   |false=>
    rw[cond_false]
    by_cases h:j=k
    .subst h;rw[hj,cond_false,cG,cG]
    rw[b7 _ _ h,b7 _ _ h,ih,hm,gJ h];rfl
theorem Wy{k:Nat}:∀{ob:Laa} {ks:List Nat},go (fO ks ob) k=bif ia ks k then ξ else go ob k
 |[],ks=>by simp[fO,go]
 |(j,x)::r,ks=>by
  have ih:=λks=>Wy (k:=k) (ob:=r) (ks:=ks)
  rw[fO]
  cases hj:ia ks j with
  |true=>
   rw[cond_true,ih]
   by_cases h:j=k
   .subst h;rw[hj];rfl
   rw[a9 _ _ h]
  |false=>
   rw[cond_false]
   have hm:ia (j::ks) k=(d0 j k||ia ks k):=by
    by_cases h:j=k<;>simp_all [ia,gJ]
   by_cases h:j=k
   .subst h;rw[hj,cond_false,bM,bM]
   rw[a9 _ _ h,a9 _ _ h,ih,hm,gJ h];rfl
theorem TO{m:St}(h:cB N s ⟨fS [] m.sl,fO [] m.ob,m.nx⟩):cB N s m:=λcx E a w hR=>by
 obtain⟨E',h⟩:=h cx E a w hR
 refine⟨E',h.ok,h.dom,λo ob ho=>h.obs o ob ?_,λk=>?_,h.dfr,h.size,h.td⟩
 .show go (fO [] m.ob) o=ς ob
  rw[Wy];exact ho
 have:=h.sl k
 rw[show gt (fS [] m.sl) k=gt m.sl k from Wz] at this
 exact this
theorem wf{st':St}(h1:LeS st.sl st'.nx (fS [] st'.sl):=by repeat (first|exact θ|refine⟨rfl,rfl,?_⟩|refine⟨wn rfl (by first|rfl|simp),rfl,?_⟩|refine⟨wnn rfl (by first|rfl|simp),rfl,?_⟩))(h2:LeO st.ob st'.nx (fO [] st'.ob):=by repeat (first|exact θ|refine⟨rfl,⟨rfl,rfl⟩,?_⟩)):cB N st st':=TO (dZ h1 h2)
def P9:T->List C
 | .v (.agg cs)=>cs
 | .v (.c c)=>[c]
 |_=>[]
def rcsV:RV->List RC
 | .agg xs=>xs
 | .c x=>[x]
def OI(sl:Lab)(ob:Laa):ResultVar->List C×Nat×Bool
 | .tmp k=>(P9 (gt sl k),k,ζ)
 | .cell p _=>match gt sl p with
  | .v (.c (.p o _))=>match go ob o with
   |some (.var _ cs)=>(cs,o,η)
   |_=>([],0,ζ)
  |_=>([],0,ζ)
section
variable{N:Nat}{P:Program}{rs:List ResultVar}{res:List RV}{e:Exit}{sl:Lab}{ob:Laa}{nx o k:Nat}
end
class FCV(P:Program)(p:Prop)(f:outParam FuncId)(xs:outParam Laa)(as:outParam (List T))(ys:outParam Laa)(out:outParam T)(nw:outParam Laa):Prop where
 h:p->FnV P f xs as ys out nw
def nlM:Laa->Nat->Lac
 |[],_=>[]
 |(l,_)::r,n=>(l,n)::nlM r (n+1)
def nlN:Laa->Nat->Nat
 |[],n=>n
 |_::r,n=>nlN r (n+1)
section
variable{P:Program}{N:Nat}{d:Tmp}{ty:TypeId}{ps:String}{af:Array Edge}{gd:Option (Nat×Bool)}{f:FuncId}{args:List Operand}{tys:Array TypeId}{sl sl':Lab}{ob ob' ob1 ob2:Laa}{nx:Nat}{ts ts':List T}{xs ys ys' nw nw':Laa}{out out':T}{p:Prop}
theorem cvU{as:List T}{out0:T}(q:p)[i:FCV P p f [] as [] out0 nw](ht:ni sl args=ς ts:=by exact rfl)(ha:og (agC ζ ob (inv [])) ts=ς ts':=by exact rfl)(hd:og dnC ts'=ς as:=by exact rfl)(hu:upT out0=out:=by exact rfl)(hm:mOK [] (nlM nw nx) nx (nlN nw nx) []=true:=by exact rfl)(hs:lL (kvC (inv [])) sl=ς sl':=by exact rfl)(hb:kr (kvC (inv [])) (λ_ x=>ς x) ob=ς ob':=by exact rfl)(hw:qx ([]++nlM nw nx) nw=ς nw':=by exact rfl)(ho:sJ (rlC ([]++nlM nw nx)) out=ς out':=by exact rfl)(hsl:uF nx sl=true:=by exact rfl)(hol:oR nx ob=true:=by exact rfl)(hN:nlt d N=true:=by exact rfl)(h2:apO nw' ob'=ς ob2:=by exact rfl):
 AWO P N ⟨ς d,.call ⟨.value (.func f),args.toArray,tys⟩,ty,ps,af,gd⟩ ⟨sl,ob,nx⟩ ⟨(d,out')::sl',ob2,nlN nw nx⟩:=cwu [] _ _ (FnV.up (i.h q) hd hu) ht ha rfl hm hs hb rfl hw ho hsl hol hN rfl h2
variable{ops:Array Oper}{l:List Oper}{K:St->Prop}
end
section
variable{P:Program}{N:Nat}{d:Tmp}{ty:TypeId}{ps:String}{af:Array Edge}{f:FuncId}{args:List Operand}{tys:Array TypeId}{sl:Lab}{ob:Laa}{nx:Nat}{st0 st1:St}{ops:Array Oper}{lz:List (Nat×Oper)}{dn seg dn':List Nat}{ys:List Inx}{base:St}{p:Nat}{K:St->Prop}{R:Prop}
end
abbrev FSt(α:Type):=α->Lab->Laa->Nat->St
structure HJ(k:Nat){α:Type}(F:FSt α):Prop
structure HC(k:Nat){α:Type}(F:FSt α):Prop
structure HB(k:Nat){α:Type}(F:FSt α):Prop
structure HL(k:Nat){α:Type}(F:FSt α):Prop
section
variable{P:Program}{N:Nat}{ops:Array Oper}{l:List Oper}{o:Oper}{sl:Lab}{ob:Laa}{nx:Nat}{K:St->Prop}{AQ:Exit->St->Prop}{α β:Type}{p:Option α}{f:α->Option β}{y:β}{F:FSt α}
theorem caF{d:Tmp}{ps:String}{af:Array Edge}{gd:Option (Nat×Bool)}{f:FuncId}{args:List Operand}{tys:Array TypeId}{ts:List T}{avs:List AV}{eqs:Lac}{nw:Laa}{p:Prop}(q:p)[i:FC P p f avs res](ht:ni sl args=ς ts:=by exact rfl)(hp:oi ob (Ag ts)=ς nob:=by exact rfl)(ha:qN nob ts=ς (avs,eqs):=by exact rfl)(he:Eqs eqs:=by repeat (first|exact θ|refine⟨by first|rfl|exact lm _|simp,?_⟩))(hi:xi nx res=ς (out,nw,n):=by exact rfl)(hw:zL nx nw n=true:=by exact rfl)(hN:nlt d N=true:=by exact rfl)(hob:apO nw ob=ς ob':=by exact rfl):
 NS P N ⟨ς d,.call ⟨.value (.func f),args.toArray,tys⟩,ty,ps,af,gd⟩ ⟨sl,ob,nx⟩ ⟨(d,out)::sl,ob',n⟩ ⟨d,args.zip ts,nob,out,nw⟩:=ca ht hp ha (i.h q) he hi hw hN hob
theorem jr{d:Nat}{b:Bool}(H:p.bind f=ς y)(hg:o.guard=ς (j,b))(hj:(ops[j]?).bind (·.dst)=ς d)(J:HJ d F)[c:Dc N K](w1:∀v,p=ς v->AWR P N ops (o::l) ⟨sl,ob,nx⟩ (λs=>cB N s (F v sl ob nx)))(w2:∀v,f v=ς y->K (F v sl ob nx)):AWR P N ops (o::l) ⟨sl,ob,nx⟩ K:=by
 obtain⟨v,h1,h2⟩:=aaZ.1 H
 exact Bk _ (w1 v h1) (w2 v h2)
theorem jd{ops':Array Oper}{is:List Inf}{mx d:Nat}{b:Bool}(H:p.bind f=ς y)(hg:o.guard=ς (j,b))(hj:(ops[j]?).bind (·.dst)=ς d)(J:HJ d F)[c:Dc N K](w1:∀v,p=ς v->DR P N ops (o::l) is ⟨sl,ob,nx⟩ (λis t=>xc ops' is mx=ζ/\cB N t (F v sl ob nx)))(w2:∀v,f v=ς y->K (F v sl ob nx)):DR P N ops (o::l) is ⟨sl,ob,nx⟩ (λis t=>xc ops' is mx=ζ/\K t):=by
 obtain⟨v,h1,h2⟩:=aaZ.1 H
 exact Fd _ (w1 v h1) (w2 v h2)
theorem jz{lz:List (Nat×Oper)}{dn seg:List Nat}{ys:List Inx}{base:St}{d:Nat}{b:Bool}(H:p.bind f=ς y)(hg:o.guard=ς (j,b))(hj:(ops[j]?).bind (·.dst)=ς d)(J:HJ d F)[c:Dc N K](w1:∀v,p=ς v->DZ P N ops ((q,o)::lz) dn seg ys base ⟨sl,ob,nx⟩ (λs=>cB N s (F v sl ob nx)))(w2:∀v,f v=ς y->K (F v sl ob nx)):DZ P N ops ((q,o)::lz) dn seg ys base ⟨sl,ob,nx⟩ K:=by
 obtain⟨v,h1,h2⟩:=aaZ.1 H
 exact UP _ (w1 v h1) (w2 v h2)
theorem jc{k:Nat}{X Y:Code}(H:p.bind f=ς y)(J:HC k F)[c:Clo N AQ](w1:∀v,p=ς v->AWC P N (.cond (.tmp k) X Y) ⟨sl,ob,nx⟩ (rW (λs=>cB N s (F v sl ob nx)) AQ))(w2:∀v,f v=ς y->AQ .normal (F v sl ob nx)):AWC P N (.cond (.tmp k) X Y) ⟨sl,ob,nx⟩ AQ:=by
 obtain⟨v,h1,h2⟩:=aaZ.1 H
 exact sX _ (w1 v h1) (w2 v h2)
theorem jb{X:Code}(H:p.bind f=ς y)(J:HB id F)[c:Clo N AQ](w1:∀v,p=ς v->AWC P N X ⟨sl,ob,nx⟩ (iv id (rW (λs=>cB N s (F v sl ob nx)) AQ)))(w2:∀v,f v=ς y->AQ .normal (F v sl ob nx)):AWC P N X ⟨sl,ob,nx⟩ (iv id AQ):=by
 obtain⟨v,h1,h2⟩:=aaZ.1 H
 exact pY _ (w1 v h1) (w2 v h2)
theorem il{c:Code}{ρ:Type}{step:α->Option (ct α ρ)}{x0:α}{r:ρ}(H:iter step n x0=ς r)(J:HL id F)(h0:cB N ⟨sl,ob,nx⟩ (F x0 sl ob nx))(round:∀x o,step x=ς o->AWC P N c (F x sl ob nx) (eZ N (λx=>F x sl ob nx) r o (iv id AQ))):AWC P N (.loop c) ⟨sl,ob,nx⟩ (iv id AQ):=pV _ H h0 round
theorem are{σ ρ:Type}{m:Option ρ}{o:ct σ ρ}{S:σ->St}{r:ρ}(H:dn m=ς o)(w:m=ς r->AQ (.exit n) s):eZ N S r o AQ (.exit n) s:=by
 obtain⟨r0,Hd,rfl⟩:=dnE H
 exact Fw λhq=>w (Hd.trans (congrArg ς hq))
theorem arr{σ ρ:Type}{m:Option ρ}{o:ct σ ρ}{S:σ->St}{r:ρ}(H:dn m=ς o)(w:m=ς r->AQ .ret s):eZ N S r o AQ .ret s:=by
 obtain⟨r0,Hd,rfl⟩:=dnE H
 exact iq_r λhq=>w (Hd.trans (congrArg ς hq))
end
theorem zR{AQ:Exit->St->Prop}{ll:List Oper}{r:List (Nat×Oper)}{R:Prop}(hr:R)(hm:P.follows .mixedOrders=true:=by exact Try.follows)(he:AO ll.toArray=true:=by kernel_rfl)(hc:JN ll.length (Zm ll.length)=true:=by kernel_rfl)(ho:Ce ll (Zm ll.length)=ς r:=by exact rfl)(w:R->DZ P N ll.toArray r [] [] [] st st (λs=>AQ .normal s):=by exact wJ):AWC P N (.region id ll.toArray ζ) st AQ:=wZ _ hm he hc ho (w hr)
theorem sgd{b:α}(H:ς a=ς b)(k:G):G:=k
section
variable{P:Program}{N:Nat}{d:Tmp}{ty:TypeId}{ps:String}{af:Array Edge}{gd:Option (Nat×Bool)}{x y:Operand}{sl:Lab}{ob:Laa}{nx:Nat}{α:Type}{enc:α->List D}
theorem xdF{by_:Nat}{g':Bool}{kd:IntKind}{xs:List α}{a:α}(H:ix xs i=ς a)[da P t e sz by_](hx:opT sl x= .v (.c (.d g (.l (xs.map enc)))):=by exact rfl)(hy:opT sl y= .v (.c (.d g' (.i kd i))):=by exact rfl)(hN:nlt d N=true:=by exact rfl)(henc:∀a,(enc a).length=sz:=by exact λ_=>rfl):
 NS0 P N ⟨ς d,.indexAddr t x y,ty,ps,af,gd⟩ sl ob nx d (.v (.c (.q g (enc a) 0))) ⟨d,[(x,.v (.c (.d g (.l (xs.map enc))))),(y,.v (.c (.d g' (.i kd i))))],[],.v (.c (.q g (enc a) 0)),[]⟩:=xdT H henc hx hy hN
theorem oeF{o:Nat}{rt:TypeId}{ys:List α}{a:α}{m:Bool}{c:C}[g8 P t](hx:opT sl x= .v (.c (.e o sz i.toNat j)):=by exact rfl)(ho:go ob o=ς (.row rt sz (ys.map enc) g m):=by exact rfl)(hN:nlt d N=true:=by exact rfl)(H:ix ys i=ς a:=by assumption)(hc:ld1 g j (enc a)=ς c:=by exact rfl):
 NS0 P N ⟨ς d,.load t x,ty,ps,af,gd⟩ sl ob nx d (.v (.c c)) ⟨d,[(x,.v (.c (.e o sz i.toNat j)))],[(o,.row rt sz (ys.map enc) g m)],.v (.c c),[]⟩:=oe hx ho hN (gk enc H) hc
theorem oeaF{o:Nat}{rt:TypeId}{ys:List α}{a:α}{m:Bool}[fm P t n](hx:opT sl x= .v (.c (.e o sz i.toNat j)):=by exact rfl)(ho:go ob o=ς (.row rt sz (ys.map enc) g m):=by exact rfl)(hN:nlt d N=true:=by exact rfl)(H:ix ys i=ς a:=by assumption)(hc:B4 g j n (enc a)=ς cs:=by exact rfl):
 NS0 P N ⟨ς d,.load t x,ty,ps,af,gd⟩ sl ob nx d (.v (.agg cs)) ⟨d,[(x,.v (.c (.e o sz i.toNat j)))],[(o,.row rt sz (ys.map enc) g m)],.v (.agg cs),[]⟩:=oea hx ho hN (gk enc H) hc
end
theorem pE{β:Type}{G:α×β->Prop}(h:∀a b,G (a,b)):∀x,G x:=λ(a,b)=>h a b
theorem hJ(k:Nat)(F:FSt α):HJ k F:=⟨⟩
theorem hC(k:Nat)(F:FSt α):HC k F:=⟨⟩
theorem hB(k:Nat)(F:FSt α):HB k F:=⟨⟩
theorem hL(k:Nat)(F:FSt α):HL k F:=⟨⟩
theorem hb(d n:Nat):HJ d (λ(v:Bool) sl ob nx=>⟨(n,tB v)::(d,.any)::sl,ob,nx⟩):=⟨⟩
theorem hl(d n:Nat):HL d (λ(v:Int) sl ob nx=>⟨(n,tI v)::sl,ob,nx⟩):=⟨⟩
theorem hm(d n m:Nat):HL d (λ(v:Int×Int) sl ob nx=>⟨(n,tI v.1)::(m,tI v.2)::sl,ob,nx⟩):=⟨⟩
theorem he(d n m:Nat):HB d (λ(v:Int) sl ob nx=>⟨(n,tI v)::(m,.any)::sl,ob,nx⟩):=⟨⟩
theorem hc(d n:Nat):HC d (λ(v:Bool) sl ob nx=>⟨(n,tB v)::sl,ob,nx⟩):=⟨⟩
theorem hi(d n:Nat):HC d (λ(v:Int) sl ob nx=>⟨(n,tI v)::sl,ob,nx⟩):=⟨⟩
section
variable{P:Program}{N:Nat}{d:Tmp}{ty:TypeId}{ps:String}{af:Array Edge}{gd:Option (Nat×Bool)}{x y:Operand}{sl:Lab}{ob:Laa}{nx:Nat}{α:Type}{enc:α->List D}{ops:Array Oper}{lz:List (Nat×Oper)}{dn seg:List Nat}{ys:List Inx}{base:St}{p:Nat}{K:St->Prop}{R:Prop}{AQ:Exit->St->Prop}
theorem zS{o k:Nat}{vt:TypeId}{cs' ns:List C}{v:V}[ht:TyN P t n](hr:R)(hx:opT sl x= .v (.c (.p o k)):=by exact rfl)(hy:opT sl y= .v v:=by exact rfl)(ho:go ob o=ς (.var vt cs):=by exact rfl)(hv:vcs v=ς ns:=by exact rfl)(hn:d0 ns.length n=true:=by exact rfl)(hst:ns.all C.sto=true:=by exact rfl)(hs:oA k ns cs=ς cs':=by exact rfl)(hq:Zw N (100000+p)=true:=by exact rfl)(w:R->DZ P N ops lz dn (seg++[p]) (ys++[⟨⟨100000+p,[(x,.v (.c (.p o k))),(y,.v v)],[(o,.var vt cs)],.any,[]⟩,[(o,.var vt cs')],ξ⟩]) base ⟨(100000+p,.any)::sl,(o,.var vt cs')::ob,nx⟩ K:=by exact wJ):
 DZ P N ops ((p,⟨ξ,.store t x y,ty,ps,af,ξ⟩)::lz) dn seg ys base ⟨sl,ob,nx⟩ K:=wA (spx (100000+p) hq hx hy ho hv hn hst hs) hr rfl w
theorem iZs(h:DZ P N ops ((p,⟨ξ,.store t x y,ty,ps,af,ξ⟩)::lz) dn seg ys base st K):DZ P N ops ((p,⟨ξ,.store t x y,ty,ps,af,ξ⟩)::lz) dn seg ys base st K:=h
theorem awoW{o:Oper}{a b c:St}(h:AWO P N o a b)(k:cB N b c):AWO P N o a c:=λcx E ac w hR=>Oper.wp_mono (λ_ _ ⟨E',h'⟩=>k cx E' _ _ h') (h cx E ac w hR)
theorem cpF{by_ o:Nat}{ys zs:List α}{gg:Bool}{c:C}[da P t e sz by_](hd:nlt d N=true:=by exact rfl)(hx:opT sl x= .v (.c (.w o n)):=by exact rfl)(ho:go ob o=ς (.row e sz (ys.map enc) g ζ):=by exact rfl)(hy:opT sl y= .v (.c c):=by exact rfl)(hs:Src ob c (zs.map enc) gy:=by first|exact .d|exact .nil|exact .w rfl (by first|rfl|exact lm _|simp)|exact .wn rfl (by first|rfl|exact lm _|simp))(henc:∀a,(enc a).length=sz:=by exact λ_=>rfl)(hn:ys.length=n:=by first|rfl|simp)(hg:(g&&gy)=gg:=by exact rfl):
 AWO P N ⟨ς d,.call ⟨.builtin .copy,#[x,y],#[t,t]⟩,ty,ps,af,gd⟩ ⟨sl,ob,nx⟩ ⟨(d,.any)::sl,(o,.row e sz ((cpL ys zs).map enc) gg ζ)::ob,nx⟩:=cpT rfl henc hn hs hd hx hy ho hg
theorem cpFf{by_ o:Nat}{ys zs:List α}{c:C}[da P t e sz by_](hd:nlt d N=true:=by exact rfl)(hx:opT sl x= .v (.c (.w o n)):=by exact rfl)(ho:go ob o=ς (.row e sz (ys.map enc) g ζ):=by exact rfl)(hy:opT sl y= .v (.c c):=by exact rfl)(hs:Src ob c (zs.map enc) gy:=by first|exact .d|exact .nil|exact .w rfl (by first|rfl|exact lm _|simp)|exact .wn rfl (by first|rfl|exact lm _|simp))(henc:∀a,(enc a).length=sz:=by exact λ_=>rfl)(hf:∀a,qd (enc a)=true:=by exact λ_=>rfl)(hn:ys.length=n:=by first|rfl|simp):
 AWO P N ⟨ς d,.call ⟨.builtin .copy,#[x,y],#[t,t]⟩,ty,ps,af,gd⟩ ⟨sl,ob,nx⟩ ⟨(d,.any)::sl,(o,.row e sz ((cpL ys zs).map enc) ζ ζ)::(o,.row e sz ((cpL ys zs).map enc) (g&&gy) ζ)::ob,nx⟩:=awoW (cpT rfl henc hn hs hd hx hy ho rfl) (tC (bM _ _ _) hf)
class ElT(P:Program)(e:TypeId)(α:outParam Type)(enc:outParam (α->List D))(za:outParam α):Prop
theorem mkF{nx':Nat}{by_:Nat}{zd:List D}{g':Bool}{k k':IntKind}{n c:Int}{za:α}(H:X0 by_ n c=ζ)[da P t e sz by_][ElT P e α enc za][TyE P e zd](hz:enc za=zd:=by exact rfl)(hx:opT sl x= .v (.c (.d g (.i k n))):=by exact rfl)(hy:opT sl y= .v (.c (.d g' (.i k' c))):=by exact rfl)(hN:nlt d N=true:=by exact rfl)(hq:nxt nx=ς nx':=by exact rfl):
 NS1 P N ⟨ς d,.makeSlice t x y,ty,ps,af,gd⟩ sl ob nx nx' d (.v (.c (.w nx (ZP n.toNat za).length))) (.row e sz ((ZP n.toNat za).map enc) ζ ζ) ⟨d,[(x,.v (.c (.d g (.i k n)))),(y,.v (.c (.d g' (.i k' c))))],[],.v (.c (.w nx (ZP n.toNat za).length)),[(nx,.row e sz ((ZP n.toNat za).map enc) ζ ζ)]⟩:=mkT H hz hx hy hN hq
theorem cdhF{t by_:Nat}{g2:Bool}{xs:List α}{h:Int}{hi:Operand}(H:fH xs 0 h=ζ)[ht:da P t e sz by_](hx:opT sl x= .v (.c (.d g (.l (xs.map enc)))):=by exact rfl)(hh:opT sl hi= .v (.c (.d g2 (.i .i64 h))):=by exact rfl)(hN:nlt d N=true:=by exact rfl)(henc:∀a,(enc a).length=sz:=by exact λ_=>rfl):
 NS0 P N ⟨ς d,.slice t x ξ (ς hi) ξ,ty,ps,af,gd⟩ sl ob nx d (.v (.c (.d g (.l ((xs.take h.toNat).map enc))))) ⟨d,[(x,.v (.c (.d g (.l (xs.map enc))))),(hi,.v (.c (.d g2 (.i .i64 h))))],[],.v (.c (.d g (.l ((xs.take h.toNat).map enc)))),[]⟩:=cdhT H henc hx hh hN
theorem cdlF{t by_:Nat}{g2:Bool}{xs:List α}{l:Int}{lo:Operand}(H:fH xs l xs.length=ζ)[ht:da P t e sz by_](hx:opT sl x= .v (.c (.d g (.l (xs.map enc)))):=by exact rfl)(hl:opT sl lo= .v (.c (.d g2 (.i .i64 l))):=by exact rfl)(hN:nlt d N=true:=by exact rfl)(henc:∀a,(enc a).length=sz:=by exact λ_=>rfl):
 NS0 P N ⟨ς d,.slice t x (ς lo) ξ ξ,ty,ps,af,gd⟩ sl ob nx d (.v (.c (.d g (.l ((xs.drop l.toNat).map enc))))) ⟨d,[(x,.v (.c (.d g (.l (xs.map enc))))),(lo,.v (.c (.d g2 (.i .i64 l))))],[],.v (.c (.d g (.l ((xs.drop l.toNat).map enc)))),[]⟩:=UB H henc hx hl hN
structure HZ(k:Nat):Prop
theorem hz(k:Nat):HZ k:=⟨⟩
theorem iHZ{c:Array Oper}(J:HZ id)(h:AWC P N (.region id c ζ) st AQ):AWC P N (.region id c ζ) st AQ:=h
theorem aq{b:Bool}{x:Option α}{r:α}(H:(bif b then x else ξ)=ς r)(k:b=ζ->x=ς r->G):G:=k (rq H).1 (rq H).2
end
section
variable{P:Program}{N:Nat}{ops:Array Oper}{l:List Oper}{o:Oper}{st:St}{K:St->Prop}{AQ:Exit->St->Prop}{is:List Inf}{KK:List Inf->St->Prop}{lz:List (Nat×Oper)}{dn seg:List Nat}{ys:List Inx}{base:St}{q j d:Nat}{b:Bool}{G:Prop}
theorem iR(h:AWR P N ops (o::l) st K):AWR P N ops (o::l) st K:=h
theorem iD(h:DR P N ops (o::l) is st KK):DR P N ops (o::l) is st KK:=h
theorem iZ(h:DZ P N ops ((q,o)::lz) dn seg ys base st K):DZ P N ops ((q,o)::lz) dn seg ys base st K:=h
theorem rU(hg:o.guard=ς (j,b))(h:AWR P N ops (o::l) st K):AWR P N ops (o::l) st K:=h
theorem dU(hg:o.guard=ς (j,b))(h:DR P N ops (o::l) is st KK):DR P N ops (o::l) is st KK:=h
theorem zU(hg:o.guard=ς (j,b))(h:DZ P N ops ((q,o)::lz) dn seg ys base st K):DZ P N ops ((q,o)::lz) dn seg ys base st K:=h
section
variable{dd:Option Tmp}{cl:Call}{ty t1:TypeId}{x1 x2:Operand}{ps:String}{af:Array Edge}{gd:Option (Nat×Bool)}
end
theorem cL{c:Code}(h:AWC P N (.loop c) st AQ):AWC P N (.loop c) st AQ:=h
theorem cK{c:Operand}{X Y:Code}(h:AWC P N (.cond c X Y) st AQ):AWC P N (.cond c X Y) st AQ:=h
theorem cR{a:Nat}{c:Array Oper}(h:AWC P N (.region a c ζ) st AQ):AWC P N (.region a c ζ) st AQ:=h
theorem iW(h:cB N st s):cB N st s:=h
theorem iP(h:tD N P rs res .ret st):tD N P rs res .ret st:=h
theorem iE(h:tD N P rs res .normal st):tD N P rs res .normal st:=h
end
inductive Pl where
 |s (k:Nat)
 |a (k j:Nat)
 |v (o j:Nat)
inductive Fx where
 |fz (o:Nat)
 |fn (o:Nat)
 |tn (o:Nat)
 |sw (p q:Nat)
 |rn (p q:Nat)
 |cs (p:Pl)
 |nn (p:Pl) (t z:Nat) (g:Bool)
 |ls (p:Pl)
 |gf (o:Nat)
def rgN(tob:Laa)(q:Nat)(p:Pl):Fx:=match go tob q with
 |some (.rown t z _ (.b g))=>.nn p t z g
 |_=>.nn p 0 0 ζ
def fxW(ob:Laa)(o:Nat)(pl:Pl):Option Fx:=bif rsv o then ξ else match go ob o with
 |some (.row _ _ _ (.b _) ζ)=>ς (.fz o)
 |_=>ς (.cs pl)
def fxL(p q:Nat):Option Fx:=bif d0 p q then ξ else ς (bif rsv p then .rn p q else .sw q p)
def fxC(ob tob:Laa)(pl:Pl):C->C->Option Fx
 | .d _ (.l _),b=>match b with
  | .w o _=>fxW ob o pl
  | .wn o _=>bif rsv o then ξ else ς (.fn o)
  | .nil=>ς (.ls pl)
  |_=>ξ
 | .wn q _,b=>match b with
  | .w o _=>ς (.tn o)
  | .wn o _=>fxL q o
  | .nil=>ς (rgN tob q pl)
  |_=>ξ
 | .w q _,b=>match b with
  | .w o _=>fxL q o
  |_=>ξ
 | .p q _,b=>match b with
  | .p o _=>bif rsv q||rsv o then ξ else fxL q o
  |_=>ξ
 |_,_=>ξ
def fxs(f:Nat->C->C->Option Fx):Nat->List C->List C->Option Fx
 |j,a::as,b::bs=>match f j a b with
  |some x=>ς x
  |none=>fxs f (j+1) as bs
 |_,_,_=>ξ
def fxS(ob tob:Laa)(sl:Lab):Lab->Option Fx
 |[]=>ξ
 |(k,t)::r=>match(match t,gt sl k with
  | .v (.c a),.v (.c b)=>fxC ob tob (.s k) a b
  | .v (.agg as),.v (.agg bs)=>fxs (λj=>fxC ob tob (.a k j)) 0 as bs
  |_,_=>ξ) with
  |some x=>ς x
  |none=>fxS ob tob sl r
def fxO(ob tob:Laa):Laa->Option Fx
 |[]=>ξ
 |(o,y)::r=>match(match y,go ob o with
  | .var _ as,ς (.var _ bs)=>fxs (λj=>fxC ob tob (.v o j)) 0 as bs
  | .row _ _ _ η ζ,ς (.row _ _ _ ζ ζ)=>ς (.gf o)
  |_,_=>ξ) with
  |some x=>ς x
  |none=>fxO ob tob r
def fx(sl:Lab)(ob:Laa)(tsl:Lab)(tob:Laa):Option Fx:=match fxS ob tob sl tsl with
 |some x=>ς x
 |none=>fxO ob tob tob
def app(sl:Lab)(ob:Laa)(nx:Nat):Fx->Option (St×Lac)
 | .fz o=>match go ob o,rsv o with
  |some (.row t z e (.b g) ζ),η=>ς (⟨sl,(o,.row t z e g η)::ob,nx⟩,[])
  |_,_=>ξ
 | .cs p=>match p with
  | .v o _=>match go ob o with
   |some (.var t cs)=>match JV ob cs with
    |some (cs',e)=>ς (⟨sl,(o,.var t cs')::ob,nx⟩,e)
    |none=>ξ
   |_=>ξ
  | .s k| .a k _=>match vfz ob (gt sl k) with
   |some (t',e)=>ς (⟨(k,t')::sl,ob,nx⟩,e)
   |none=>ξ
 | .fn o=>match go ob o,rsv o with
  |some (.rown t z e (.b g)),η=>match NU o (.l e) g e.length sl,uD o (.l e) g e.length ob with
   |some (sl',e1),ς (ob',e2)=>ς (⟨sl',ob',nx⟩,e1++e2)
   |_,_=>ξ
  |_,_=>ξ
 | .tn o=>match go ob o with
  |some (.row _ _ _ (.b _) ζ)=>match lL (Do o) sl,kr (Do o) (K8 o) ob with
   |some sl',ς ob'=>ς (⟨sl',ob',nx⟩,[])
   |_,_=>ξ
  |_=>ξ
 | .sw p q=>bif rsv p||rsv q||!(nlt p nx&&nlt q nx) then ξ else ς (⟨swS p q sl,swO p q ob,nx⟩,[])
 | .rn p q=>bif rsp p||rsv q||d0 p q||!nlt p nx then ξ else match lL (Az p q) sl,zV p q ob with
  |some sl',ς ob'=>ς (⟨sl',ob',nx⟩,[])
  |_,_=>ξ
 | .nn p t z g=>bif uF nx sl&&oR nx ob then match nxt nx with
  |some n=>match p with
   | .s k=>match gt sl k with
    | .v (.c .nil)=>ς (⟨(k,.v (.c (.wn nx 0)))::sl,(nx,.rown t z [] g)::ob,n⟩,[])
    |_=>ξ
   | .a k j=>match gt sl k with
    | .v (.agg cs)=>match AC j (.wn nx 0) cs with
     |some cs'=>ς (⟨(k,.v (.agg cs'))::sl,(nx,.rown t z [] g)::ob,n⟩,[])
     |none=>ξ
    |_=>ξ
   | .v o j=>match go ob o with
    |some (.var vt cs)=>match AC j (.wn nx 0) cs with
     |some cs'=>ς (⟨sl,(o,.var vt cs')::(nx,.rown t z [] g)::ob,n⟩,[])
     |none=>ξ
    |_=>ξ
  |none=>ξ
  else ξ
 | .ls p=>match p with
  | .s k=>ς (⟨(k,nlT (gt sl k))::sl,ob,nx⟩,[])
  | .a k j=>match gt sl k with
   | .v (.agg cs)=>match AC j (.d ζ (.l [])) cs with
    |some cs'=>ς (⟨(k,.v (.agg cs'))::sl,ob,nx⟩,[])
    |none=>ξ
   |_=>ξ
  | .v o j=>match go ob o with
   |some (.var t cs)=>match AC j (.d ζ (.l [])) cs with
    |some cs'=>ς (⟨sl,(o,.var t cs')::ob,nx⟩,[])
    |none=>ξ
   |_=>ξ
 | .gf o=>match go ob o with
  |some (.row t z e ζ ζ)=>ς (⟨sl,(o,.row t z e η ζ)::ob,nx⟩,[])
  |_=>ξ
theorem tF{ob:Laa}{x:Fx}{e:Lac}(h:app sl ob nx x=ς (st,e))(he:Eqs e):cB N ⟨sl,ob,nx⟩ st:=by
 cases x with
 |fz o=>
  simp only[app] at h
  split at h
  .rename_i h1 h2;cases h;exact g7 h1 h2
  cases h
 |cs p=>
  cases p with
  |v o j=>
   simp only[app] at h
   split at h
   .rename_i h1
    split at h
    .rename_i h2;cases h;exact nE h1 h2 he
    cases h
   cases h
  |s k=>
   simp only[app] at h
   split at h
   .rename_i h2;cases h;exact fN rfl h2 he
   cases h
  |a k j=>
   simp only[app] at h
   split at h
   .rename_i h2;cases h;exact fN rfl h2 he
   cases h
 |fn o=>
  simp only[app] at h
  split at h
  .rename_i h1 h2
   split at h
   .rename_i h3 h4;cases h
    obtain⟨k1,k2⟩:=dq he
    exact ev o h2 h1 h3 h4 k1 k2
   cases h
  cases h
 |tn o=>
  simp only[app] at h
  split at h
  .rename_i h1
   split at h
   .rename_i h3 h4;cases h;exact gA o h1 h3 h4
   cases h
  cases h
 |sw p q=>
  simp only[app] at h
  cases hp:rsv p<;>cases hq:rsv q<;>cases h1:nlt p nx<;>cases h2:nlt q nx<;>simp only[hp,hq,h1,h2,aa3,aa2,aaY,aa8,aam,aa9,cond_true,cond_false] at h<;>first|(cases h;exact C6 hp hq h1 h2)|cases h
 |rn p q=>
  simp only[app] at h
  cases hp:rsp p<;>cases hq:rsv q<;>cases h1:d0 p q<;>cases h2:nlt p nx<;>simp only[hp,hq,h1,h2,aa3,aa2,aam,aa9,cond_true,cond_false] at h<;>try cases h
  split at h
  .rename_i h3 h4;cases h;exact Jn p q hp hq h1 h2 h3 h4
  cases h
 |nn p t z g=>
  simp only[app] at h
  cases hs:uF nx sl<;>cases hb:oR nx ob<;>simp only[hs,hb,aaY,aa8,cond_true,cond_false] at h<;>try cases h
  split at h
  .rename_i hq
   cases p with
   |s k=>
    simp only at h
    split at h
    .rename_i hk;cases h;exact TR t z g hk hs hb hq
    cases h
   |a k j=>
    simp only at h
    split at h
    .rename_i hk
     split at h
     .rename_i hj;cases h;exact TQ t z g hk hj hs hb hq
     cases h
    cases h
   |v o j=>
    simp only at h
    split at h
    .rename_i hk
     split at h
     .rename_i hj;cases h;exact dY t z g hk hj hs hb hq
     cases h
    cases h
  cases h
 |ls p=>
  cases p with
  |s k=>simp only[app] at h;cases h;exact TP rfl
  |v o j=>
   simp only[app] at h
   split at h
   .rename_i h1
    split at h
    .rename_i h2;cases h;exact eF h1 h2
    cases h
   cases h
  |a k j=>
   simp only[app] at h
   split at h
   .rename_i h1
    split at h
    .rename_i h2;cases h;exact Ph h1 h2
    cases h
   cases h
 |gf o=>
  simp only[app] at h
  split at h
  .rename_i h1;cases h;exact Zg h1
  cases h
theorem fxF{ob:Laa}{x:Fx}{M:St}{e:Lac}(h:fx sl ob (fS [] M.sl) (fO [] M.ob)=ς x)(ha:app sl ob nx x=ς (st,e))(he:Eqs e)(w:cB N st M):cB N ⟨sl,ob,nx⟩ M:=aK (tF ha he) w
theorem fxU{ob:Laa}{M:St}(h:Zw nx M.nx=ζ)(w:cB N ⟨sl,ob,M.nx⟩ M):cB N ⟨sl,ob,nx⟩ M:=aK (A6 h) w
def CsE:List C->List C->Prop
 |[],[]=>True
 |a::as,b::bs=>a=b/\CsE as bs
 |_,_=>False
theorem Jy:∀{as bs:List C},CsE as bs->as=bs
 |[],[],_=>rfl
 |_::_,_::_,h=>by rw[h.1,Jy h.2]
 |[],_::_,h=>h.elim
 |_::_,[],h=>h.elim
theorem vE{ob:Laa}{o t:Nat}{cs':List C}(h:go ob o=ς (.var t cs))(e:CsE cs cs'):go ob o=ς (.var t cs'):=Jy e▸h
theorem aE'{k:Nat}{cs':List C}(h:gt sl k= .v (.agg cs))(e:CsE cs cs'):gt sl k= .v (.agg cs'):=Jy e▸h
def wnL:Lac->Lab->Laa->Option (Lab×Laa×Lac)
 |[],sl,ob=>ς (sl,ob,[])
 |(o,n)::r,sl,ob=>match vx o n sl,Dq o n ob with
  |some sl',ς ob'=>match wnL r sl' ob' with
   |some (a,b,e)=>ς (a,b,(Lj o n sl++Jp o n ob)++e)
   |none=>ξ
  |_,_=>ξ
theorem zh{N nx:Nat}:∀{L:Lac} {sl sl':Lab} {ob ob':Laa} {e:Lac},wnL L sl ob=ς (sl',ob',e)->Eqs e->cB N ⟨sl,ob,nx⟩ ⟨sl',ob',nx⟩
 |[],sl,sl',ob,ob',e,h,he=>by cases h;exact jv _
 |(o,n)::r,sl,sl',ob,ob',e,h,he=>by
  simp only[wnL] at h
  split at h
  .rename_i h1 h2
   split at h
   .rename_i h3;cases h
    obtain⟨k1,k2⟩:=dq he
    obtain⟨k3,k4⟩:=dq k1
    exact aK (qP h1 h2 k3 k4) (zh h3 k2)
   cases h
  cases h
def WI:T->List V
 | .v v=>[v]
 | .tup vs=>vs
 | .any=>[]
def vCs:V->List C
 | .c c=>[c]
 | .agg cs=>cs
def tgR(sl:Lab)(ob:Laa):Nat->List ResultVar->List V->Option (Lab×Laa)
 |_,[],[]=>ς ([],[])
 |n,.tmp k::rs,v::vs=>match tgR sl ob n rs vs with
  |some (a,b)=>ς ((k,.v v)::a,b)
  |none=>ξ
 |n,.cell p _::rs,v::vs=>match gt sl p with
  | .v (.c (.p o _))=>match go ob o,tgR sl ob (n+1) rs vs with
   |some (.var t _),ς (a,b)=>ς ((p,.v (.c (.p n 0)))::a,(n,.var t (vCs v))::b)
   |_,_=>ξ
  |_=>ξ
 |_,_,_=>ξ
theorem fvR{ys nw:Laa}{vs:List V}{tsl:Lab}{ob tob:Laa}(ho:WI out=vs)(hm:tgR sl ob 250 rs vs=ς (tsl,tob))(h0:Ko vs=out)(w:cB N ⟨sl,ob,nx⟩ ⟨tsl,ys++(nw++tob),300⟩)(hr:it P ⟨tsl,ys++(nw++tob),300⟩ rs vs)(hy:LoA (ys++(nw++tob)) ys)(hn:LoA (ys++(nw++tob)) nw):mU N P rs ys out nw .ret ⟨sl,ob,nx⟩:=⟨_,vs,w,hr,h0,hy,hn⟩
theorem fvE{ys nw:Laa}{vs:List V}{tsl:Lab}{ob tob:Laa}(ho:WI out=vs)(hm:tgR sl ob 250 rs vs=ς (tsl,tob))(h0:Ko vs=out)(w:cB N ⟨sl,ob,nx⟩ ⟨tsl,ys++(nw++tob),300⟩)(hr:it P ⟨tsl,ys++(nw++tob),300⟩ rs vs)(hy:LoA (ys++(nw++tob)) ys)(hn:LoA (ys++(nw++tob)) nw):mU N P rs ys out nw .normal ⟨sl,ob,nx⟩:=⟨_,vs,w,hr,h0,hy,hn⟩
def mkI:List T->List T->Lac
 | .v (.c a)::as,.v (.c b)::bs=>match a,b with
  | .p a _,.p b _=>(a,b)::mkI as bs
  | .w a _,.w b _=>(a,b)::mkI as bs
  |_,_=>mkI as bs
 |_::as,_::bs=>mkI as bs
 |_,_=>[]
def labW:C->Option Nat
 | .w o _=>ς o
 | .wn o _=>ς o
 |_=>ξ
def zpW:List C->List C->Lac
 |a::as,b::bs=>match labW a,labW b with
  |some a,ς b=>(a,b)::zpW as bs
  |_,_=>zpW as bs
 |_,_=>[]
def mkJ(xs ob:Laa):Lac->Lac
 |[]=>[]
 |(a,b)::r=>match go xs a,go ob b with
  |some (.var _ cs),ς (.var _ ds)=>(a,b)::(zpW cs ds++mkJ xs ob r)
  |_,_=>(a,b)::mkJ xs ob r
def ordM(m:Lac):Laa->Option Lac
 |[]=>ς []
 |(l,_)::r=>match bQ m l,ordM m r with
  |some o,ς q=>ς ((l,o)::q)
  |_,_=>ξ
def mkM(xs ob:Laa)(as ts:List T):Option Lac:=ordM (mkJ xs ob (mkI as ts)) xs
def tnV(ob:Laa)(b:Nat):Nat->List C->List C->Option Fx
 |j,.d _ (.l _)::as,.w o _::bs=>match fxW ob o (.v b j) with
  |some x=>ς x
  |none=>tnV ob b (j+1) as bs
 |j,_::as,_::bs=>tnV ob b (j+1) as bs
 |_,_,_=>ξ
def tnL(xs ob:Laa):Lac->Option Fx
 |[]=>ξ
 |(a,b)::r=>match(match go xs a,go ob b with
  |some (.rown _ _ _ _),ς (.row _ _ _ _ ζ)=>ς (Fx.tn b)
  |some (.var _ cs),ς (.var _ ds)=>tnV ob b 0 cs ds
  |_,_=>ξ) with
  |some x=>ς x
  |none=>tnL xs ob r
def lnC(m:Lac):List C->Lac
 |[]=>[]
 | .w a n::cs| .wn a n::cs=>match bQ m a with
  |some b=>(b,n)::lnC m cs
  |none=>lnC m cs
 |_::cs=>lnC m cs
def lnX(m:Lac):Laa->Lac
 |[]=>[]
 |(_,.var _ cs)::r=>lnC m cs++lnX m r
 |_::r=>lnX m r
section
variable{P:Program}{N:Nat}{d:Tmp}{ty:TypeId}{ps:String}{af:Array Edge}{gd:Option (Nat×Bool)}{f:FuncId}{args:List Operand}{tys:Array TypeId}{sl sl':Lab}{ob ob' ob1 ob2:Laa}{nx:Nat}{ts ts':List T}{xs ys ys' nw nw':Laa}{out out':T}{p:Prop}{m e:Lac}
variable{ops:Array Oper}{l:List Oper}{K:St->Prop}{x:Fx}{st st0:St}
theorem cvN(q:p)[i:FCV P p f xs ts' ys out nw](ht:ni sl args=ς ts)(hM:mkM xs ob ts' ts=ς m)(h:tnL xs ob m=ς x)(ha:app sl ob nx x=ς (st,e))(he:Eqs e)(w:AWR P N ops (⟨ς d,.call ⟨.value (.func f),args.toArray,tys⟩,ty,ps,af,gd⟩::l) st K):AWR P N ops (⟨ς d,.call ⟨.value (.func f),args.toArray,tys⟩,ty,ps,af,gd⟩::l) ⟨sl,ob,nx⟩ K:=ea (tF ha he) w
variable{α:Type}{enc:α->List D}{us:List α}{j:Int}{a:α}{y z:Operand}{t1:TypeId}{o n e sz:Nat}{g:Bool}
end
theorem wg{st':St}(h1:LeS st.sl st'.nx (fS [] st'.sl):=by repeat (first|exact θ|refine⟨rfl,rfl,?_⟩|refine⟨wn rfl (by first|rfl|simp),rfl,?_⟩|refine⟨wnn rfl (by first|rfl|simp),rfl,?_⟩|refine⟨aE' rfl (by repeat (first|exact θ|refine⟨rfl,?_⟩|refine⟨congrArg (C.w _) (by simp),?_⟩|refine⟨congrArg (C.wn _) (by simp),?_⟩)),rfl,?_⟩))(h2:LeO st.ob st'.nx (fO [] st'.ob):=by repeat (first|exact θ|refine⟨rfl,⟨rfl,rfl⟩,?_⟩|refine⟨vE rfl (by repeat (first|exact θ|refine⟨rfl,?_⟩|refine⟨congrArg (C.w _) (by simp),?_⟩|refine⟨congrArg (C.wn _) (by simp),?_⟩)),⟨rfl,rfl⟩,?_⟩)):cB N st st':=TO (dZ h1 h2)
def Nx(ys:List α)(i:Nat)(a:α):List α:=ys.set i a
structure Tag{α:Type}(ys:List α)(i:Nat):Prop where
theorem Tag.eq{i:Nat}(t:Tag ys i)(a:α):ys.set i a=Nx ys i a:=rfl
section
variable{P:Program}{N:Nat}{ty t:TypeId}{ps:String}{af:Array Edge}{gd:Option (Nat×Bool)}{x y:Operand}{sl:Lab}{ob:Laa}{nx:Nat}{α:Type}{enc:α->List D}{ops:Array Oper}{l:List Oper}{K:St->Prop}
theorem rSt(h:AWR P N ops (⟨ξ,.store t x y,ty,ps,af,gd⟩::l) st K):AWR P N ops (⟨ξ,.store t x y,ty,ps,af,gd⟩::l) st K:=h
theorem rSo{o:Nat}{rt:TypeId}{ys:List α}{a:α}(hx:opT sl x= .v (.c (.e o sz i.toNat j)))(ho:go ob o=ς (.row rt sz (ys.map enc) g ζ))(H:ix ys i=ς a)(w:Tag ys i.toNat->AWR P N ops (⟨ξ,.store t x y,ty,ps,af,gd⟩::l) ⟨sl,ob,nx⟩ K):AWR P N ops (⟨ξ,.store t x y,ty,ps,af,gd⟩::l) ⟨sl,ob,nx⟩ K:=w ⟨⟩
theorem soM{o:Nat}{rt:TypeId}{ys v:List α}{a a':α}{g' gg:Bool}{u:V}[TyN P t n](e:Nx ys i.toNat a'=v)(H:ix ys i=ς a:=by assumption)(hx:opT sl x= .v (.c (.e o sz i.toNat j)):=by exact rfl)(hy:opT sl y= .v u:=by exact rfl)(ho:go ob o=ς (.row rt sz (ys.map enc) g ζ):=by exact rfl)(hv:vD u=ς (ns,g'):=by exact rfl)(hn:d0 ns.length n=true:=by exact rfl)(hs:oA j ns (enc a)=ς (enc a'):=by exact rfl)(hg:(g&&g')=gg:=by exact rfl):
 AWO P N ⟨ξ,.store t x y,ty,ps,af,gd⟩ ⟨sl,ob,nx⟩ ⟨sl,(o,.row rt sz ((ys.set i.toNat a').map enc) gg ζ)::ob,nx⟩:=soT H hx hy ho hv hn hs hg
variable{d:Tmp}
theorem oenF{o:Nat}{rt:TypeId}{ys:List α}{a:α}{c:C}[g8 P t](hx:opT sl x= .v (.c (.e o sz i.toNat j)):=by exact rfl)(ho:go ob o=ς (.rown rt sz (ys.map enc) g):=by exact rfl)(hN:nlt d N=true:=by exact rfl)(H:ix ys i=ς a:=by assumption)(hc:ld1 g j (enc a)=ς c:=by exact rfl):
 NS0 P N ⟨ς d,.load t x,ty,ps,af,gd⟩ sl ob nx d (.v (.c c)) ⟨d,[(x,.v (.c (.e o sz i.toNat j)))],[(o,.rown rt sz (ys.map enc) g)],.v (.c c),[]⟩:=oen hx ho hN (gk enc H) hc
theorem oeanF{o:Nat}{rt:TypeId}{ys:List α}{a:α}[fm P t n](hx:opT sl x= .v (.c (.e o sz i.toNat j)):=by exact rfl)(ho:go ob o=ς (.rown rt sz (ys.map enc) g):=by exact rfl)(hN:nlt d N=true:=by exact rfl)(H:ix ys i=ς a:=by assumption)(hc:B4 g j n (enc a)=ς cs:=by exact rfl):
 NS0 P N ⟨ς d,.load t x,ty,ps,af,gd⟩ sl ob nx d (.v (.agg cs)) ⟨d,[(x,.v (.c (.e o sz i.toNat j)))],[(o,.rown rt sz (ys.map enc) g)],.v (.agg cs),[]⟩:=oean hx ho hN (gk enc H) hc
end
section
variable{P:Program}{N:Nat}{rs:List ResultVar}{ys nw:Laa}{out:T}{st:St}
theorem iPv(h:mU N P rs ys out nw .ret st):mU N P rs ys out nw .ret st:=h
theorem iEv(h:mU N P rs ys out nw .normal st):mU N P rs ys out nw .normal st:=h
end
class FCW(P:Program)(p:Prop)(f:outParam FuncId)(x:outParam Ob)(as:outParam (List T))(y:outParam Ob)(res:outParam (List RV)):Prop where
 h:p->FnW P f x as y res
def Vx:List T->List T->Option Nat
 | .v (.c (.p a _))::as,.v (.c (.p b _))::bs=>bif d0 a 200 then ς b else Vx as bs
 |_::as,_::bs=>Vx as bs
 |_,_=>ξ
section
variable{P:Program}{N:Nat}{d:Tmp}{ty:TypeId}{ps:String}{af:Array Edge}{gd:Option (Nat×Bool)}{f:FuncId}{args:List Operand}{tys:Array TypeId}{sl:Lab}{ob ob':Laa}{nx o:Nat}{x0 x1 y:Ob}{ts ts':List T}{eqs:Lac}{res:List RV}{out:T}{nw:Laa}{n:Nat}{p:Prop}
theorem cwF(q:p)[i:FCW P p f x1 ts' y res](ht:ni sl args=ς ts:=by exact rfl)(h2:Vx ts' ts=ς o:=by exact rfl)(ho:go ob o=ς x0:=by exact rfl)(hl:x0.loc=x1:=by exact rfl)(hfx:x0.free=true:=by exact rfl)(hfy:y.free=true:=by exact rfl)(ha:wG [] o ts=ς (ts',eqs):=by exact rfl)(he:Eqs eqs:=by repeat (first|exact θ|refine⟨by first|rfl|exact lm _|simp,?_⟩))(hi:xi nx res=ς (out,nw,n):=by exact rfl)(hw:zL nx nw n=true:=by exact rfl)(hN:nlt d N=true:=by exact rfl)(hob:apO nw ((o,y)::ob)=ς ob':=by exact rfl):
 AWO P N ⟨ς d,.call ⟨.value (.func f),args.toArray,tys⟩,ty,ps,af,gd⟩ ⟨sl,ob,nx⟩ ⟨(d,out)::sl,ob',n⟩:=cw (i.h q) ht ho hl hfx hfy ha he hi hw hN hob
theorem cwX(q:p)[i:FCW P p f x1 ts' y res](ht:ni sl args=ς ts:=by exact rfl)(h2:Vx ts' ts=ς o:=by exact rfl)(ho:go ob o=ς x0:=by exact rfl)(hl:x0.loc=x1:=by exact rfl)(hfx:x0.free=true:=by exact rfl)(hfy:y.free=true:=by exact rfl)(ha:wG [] o ts=ς (ts',eqs):=by exact rfl)(he:Eqs eqs:=by repeat (first|exact θ|refine⟨by first|rfl|exact lm _|simp,?_⟩))(hi:xi nx res=ς (out,nw,n):=by exact rfl)(hw:zL nx nw n=true:=by exact rfl)(hN:nlt d N=true:=by exact rfl)(hob:apO nw ((o,y)::ob)=ς ob':=by exact rfl):
 NX P N ⟨ς d,.call ⟨.value (.func f),args.toArray,tys⟩,ty,ps,af,gd⟩ ⟨sl,ob,nx⟩ ⟨(d,out)::sl,ob',n⟩ ⟨⟨d,args.zip ts,[(o,x0)],out,nw⟩,[(o,y)],ξ⟩:=cwx (i.h q) ht ho hl hfx hfy ha he hi hw hN hob
end
section
variable{N:Nat}{P:Program}{rs:List ResultVar}{res:List RV}{e:Exit}{y:Ob}{sl:Lab}{ob:Laa}{nx o k:Nat}{st:St}
theorem iPw(h:pP N P rs res y .ret st):pP N P rs res y .ret st:=h
theorem iEw(h:pP N P rs res y .normal st):pP N P rs res y .normal st:=h
end
def prS:List Nat->Lab->Option Lab
 |_,[]=>ς []
 |ks,(k,t)::r=>match ia ks k||T.isAny t with
  |true=>prS (k::ks) r
  |false=>match prS (k::ks) r with
   |some r'=>ς ((k,t)::r')
   |none=>ξ
def prO:List Nat->Laa->Option Laa
 |_,[]=>ς []
 |ks,(k,x)::r=>match ia ks k with
  |true=>prO ks r
  |false=>match prO (k::ks) r with
   |some r'=>ς ((k,x)::r')
   |none=>ξ
theorem zJ{k:Nat}{ks:List Nat}:ia (j::ks) k=(d0 j k||ia ks k):=by
 by_cases h:j=k<;>simp_all [ia,gJ]
theorem Kt{k:Nat}:∀{sl sl':Lab} {ks:List Nat},prS ks sl=ς sl'->gt sl' k=bif ia ks k then .any else gt sl k
 |[],sl',ks,h=>by cases h;simp[gt]
 |(j,t)::r,sl',ks,h=>by
  simp only[prS] at h
  split at h
  .rename_i hm
   rw[Kt h,zJ]
   by_cases e:j=k
   .subst e
    rw[cG]
    cases h1:ia ks j with
    |true=>simp
    |false=>simp only[h1,Bool.false_or] at hm;rw[T.isAny_eq hm];simp
   rw[b7 _ _ e,gJ e];rfl
  rename_i hm
  split at h
  .rename_i r' h1;cases h
   have h2:ia ks j=false:=by cases h3:ia ks j<;>simp_all
   by_cases e:j=k
   .subst e;rw[cG,cG,h2];rfl
   rw[b7 _ _ e,b7 _ _ e,Kt h1,zJ,gJ e];rfl
  cases h
theorem Ks{k:Nat}:∀{ob ob':Laa} {ks:List Nat},prO ks ob=ς ob'->go ob' k=bif ia ks k then ξ else go ob k
 |[],ob',ks,h=>by cases h;simp[go]
 |(j,x)::r,ob',ks,h=>by
  simp only[prO] at h
  split at h
  .rename_i hm
   rw[Ks h]
   by_cases e:j=k
   .subst e;rw[hm];rfl
   rw[a9 _ _ e]
  rename_i hm
  split at h
  .rename_i r' h1;cases h
   by_cases e:j=k
   .subst e;rw[bM,bM,hm];rfl
   rw[a9 _ _ e,a9 _ _ e,Ks h1,zJ,gJ e];rfl
  cases h
theorem A5{ob:Laa}(h1:prS [] sl=ς sl')(h2:prO [] ob=ς ob'):cB N ⟨sl,ob,nx⟩ ⟨sl',ob',nx⟩:=λcx E a w h=>
 ⟨E,h.ok,h.dom,λo x ho=>h.obs o x (by have:=Ks (k:=o) h2;rw[this] at ho;exact ho),λk=>by have:=Kt (k:=k) h1;rw[this];exact h.sl k,h.dfr,h.size,h.td⟩
theorem fxP{ob:Laa}{M:St}(h1:prS [] sl=ς sl')(h2:prO [] ob=ς ob')(w:cB N ⟨sl',ob',nx⟩ M):cB N ⟨sl,ob,nx⟩ M:=aK (A5 h1 h2) w
class EnT(P:Program)(e:TypeId)(α:outParam Type)(enc:outParam (α->List D)):Prop
def natOf:Int->Option Nat
 | .ofNat n=>ς n
 |_=>ξ
def PW(N:Nat)(s0:St)(args:List Operand)(s:St)(G:Prop):Prop:=cB N s0 s->G
section
variable{P:Program}{N:Nat}{d:Tmp}{ty t:TypeId}{ps:String}{af:Array Edge}{gd:Option (Nat×Bool)}{x y:Operand}{sl sl':Lab}{ob ob':Laa}{nx:Nat}{α:Type}{enc:α->List D}{ops:Array Oper}{l:List Oper}{K:St->Prop}{st0 st1 base:St}{lz:List (Nat×Oper)}{dn seg dn':List Nat}{ys:List Inx}{p:Nat}{R:Prop}
theorem ishF{op:BinOp}{t':TypeId}{g':Bool}{k k':IntKind}{a b r:Int}(hx:opT sl x= .v (.c (.d g (.i k a))))(hy:opT sl y= .v (.c (.d g' (.i k' b))))(hb:natOf b=ς n)(hN:nlt d N=ζ)(h:Ta op k a n=ς r):
 NS0 P N ⟨ς d,.binOp op t x y t',ty,ps,af,gd⟩ sl ob nx d (.v (.c (.d η (.i k r)))) ⟨d,[(x,.v (.c (.d g (.i k a)))),(y,.v (.c (.d g' (.i k' (n:Int)))))],[],.v (.c (.d η (.i k r))),[]⟩:=by
 cases b with
 |ofNat m=>cases hb;exact ishL hx hy hN h
 |negSucc m=>cases hb
theorem pwU{s0:St}{us:List α}{a:α}{o:Nat}(hx:opT sl x= .v (.c (.e o sz i.toNat j)))(ho:go ob o=ς (.rown e sz (us.map enc) g))(q:ix us i=ς a)(hs:lL (y9 o) sl=ς sl')(hb:kr (y9 o) (Dp o) ob=ς ob')(w:PW N s0 [x,y] ⟨sl',ob',nx⟩ G):PW N s0 [x,y] ⟨sl,ob,nx⟩ G:=λk=>w (aK k (vw o ho (HT (enc:=enc) q) hs hb))
theorem pwS{s0:St}{us:List α}{a:α}{o rt:Nat}(hx:opT sl x= .v (.c (.e o sz i.toNat j)))(ho:go ob o=ς (.row rt sz (us.map enc) g ζ))(q:ix us i=ς a)(w:Tag us i.toNat->PW N s0 [x,y] ⟨sl,ob,nx⟩ G):PW N s0 [x,y] ⟨sl,ob,nx⟩ G:=w ⟨⟩
theorem zSt(h:PW N st0 [x,y] st0 (DZ P N ops ((p,⟨ξ,.store t x y,ty,ps,af,ξ⟩)::lz) dn seg ys base st0 K)):DZ P N ops ((p,⟨ξ,.store t x y,ty,ps,af,ξ⟩)::lz) dn seg ys base st0 K:=h (jv _)
theorem zPc{args:List Operand}{tys:Array TypeId}(h:PW N st0 args st0 (DZ P N ops ((p,⟨ς d,.call ⟨.value (.func f),args.toArray,tys⟩,ty,ps,af,ξ⟩)::lz) dn seg ys base st0 K)):DZ P N ops ((p,⟨ς d,.call ⟨.value (.func f),args.toArray,tys⟩,ty,ps,af,ξ⟩)::lz) dn seg ys base st0 K:=h (jv _)
theorem zBt{o:Oper}(hw:cB N s st0)(h:AWO P N o st0 st1)(hr:R)(hg:o.guard=none:=by exact rfl)(hs:vf ops dn seg ys=true:=by kernel_rfl)(hkl:kls ys=[]:=by exact rfl)(hb:Bn ops (seg++dn) p=true:=by kernel_rfl)(hlo:p::(seg++dn)=dn':=by exact rfl)(w:R->DZ P N ops lz dn' [] [] st1 st1 K:=by exact wJ):
 DZ P N ops ((p,o)::lz) dn seg ys base s K:=zB hw (jP hg h) cr hr hs hkl hb hlo w
theorem aSu{us:List α}{a:α}{o:Nat}(hx:opT sl x= .v (.c (.e o sz i.toNat j)))(ho:go ob o=ς (.rown e sz (us.map enc) g))(q:ix us i=ς a)(hs:lL (y9 o) sl=ς sl')(hb:kr (y9 o) (Dp o) ob=ς ob')(w:AWR P N ops (⟨ξ,.store t x y,ty,ps,af,gd⟩::l) ⟨sl',ob',nx⟩ K):AWR P N ops (⟨ξ,.store t x y,ty,ps,af,gd⟩::l) ⟨sl,ob,nx⟩ K:=ea (vw o ho (HT (enc:=enc) q) hs hb) w
theorem apE{by_ o:Nat}{ys zs:List α}{gg:Bool}{c:C}(H:cW by_ (ys++zs).length=ζ)[da P t e sz by_][EnT P e α enc](hd:nlt d N=true:=by exact rfl)(hx:opT sl x= .v (.c (.w o n)):=by exact rfl)(ho:go ob o=ς (.row e sz (ys.map enc) g ζ):=by exact rfl)(hy:opT sl y= .v (.c c):=by exact rfl)(hn:ys.length=n:=by first|rfl|simp)(hs:Src ob c (zs.map enc) gy:=by first|exact .d|exact .nil|exact .w rfl (by first|rfl|exact lm _|simp)|exact .wn rfl (by first|rfl|exact lm _|simp)|exact M9 (by assumption) rfl|exact I6 (by assumption) (by first|rfl|simp) rfl)(henc:∀a,(enc a).length=sz:=by exact λ_=>rfl)(hk:gI o sl=ς sl':=by exact rfl)(hkb:gP o ob=ς ob':=by exact rfl)(hg:(g&&gy)=gg:=by exact rfl)(hrv:rsp o=false:=by exact rfl):
 AWO P N ⟨ς d,.call ⟨.builtin .append,#[x,y],#[t,t]⟩,ty,ps,af,gd⟩ ⟨sl,ob,nx⟩ ⟨(d,.v (.c (.w o (ys++zs).length)))::sl',(o,.row e sz ((ys++zs).map enc) gg ζ)::ob',nx⟩:=apT H rfl henc hd hx hy hn hs ho hk hkb hg hrv
theorem apEf{by_ o:Nat}{ys zs:List α}{c:C}(H:cW by_ (ys++zs).length=ζ)[da P t e sz by_][EnT P e α enc](hd:nlt d N=true:=by exact rfl)(hx:opT sl x= .v (.c (.w o n)):=by exact rfl)(ho:go ob o=ς (.row e sz (ys.map enc) g ζ):=by exact rfl)(hy:opT sl y= .v (.c c):=by exact rfl)(hn:ys.length=n:=by first|rfl|simp)(hs:Src ob c (zs.map enc) gy:=by first|exact .d|exact .nil|exact .w rfl (by first|rfl|exact lm _|simp)|exact .wn rfl (by first|rfl|exact lm _|simp)|exact M9 (by assumption) rfl|exact I6 (by assumption) (by first|rfl|simp) rfl)(henc:∀a,(enc a).length=sz:=by exact λ_=>rfl)(hf:∀a,qd (enc a)=true:=by exact λ_=>rfl)(hk:gI o sl=ς sl':=by exact rfl)(hkb:gP o ob=ς ob':=by exact rfl)(hrv:rsp o=false:=by exact rfl):
 AWO P N ⟨ς d,.call ⟨.builtin .append,#[x,y],#[t,t]⟩,ty,ps,af,gd⟩ ⟨sl,ob,nx⟩ ⟨(d,.v (.c (.w o (ys++zs).length)))::sl',(o,.row e sz ((ys++zs).map enc) ζ ζ)::(o,.row e sz ((ys++zs).map enc) (g&&gy) ζ)::ob',nx⟩:=awoW (apT H rfl henc hd hx hy hn hs ho hk hkb rfl hrv) (tC (bM _ _ _) hf)
end
section
variable{P:Program}{N:Nat}{d:Tmp}{ty:TypeId}{ps:String}{af:Array Edge}{gd:Option (Nat×Bool)}{f:FuncId}{args:List Operand}{tys:Array TypeId}{sl sl':Lab}{ob ob' ob1 ob2:Laa}{nx:Nat}{ts ts':List T}{xs ys ys' nw nw':Laa}{out out':T}{p:Prop}{m e:Lac}
end
section
variable{P:Program}{N:Nat}{f:FuncId}{args:List Operand}{sl:Lab}{ob:Laa}{nx:Nat}{ts ts':List T}{xs ys nw:Laa}{out:T}{p G:Prop}{m:Lac}{x:Fx}{st s0:St}
theorem pwT{e:Lac}(q:p)[i:FCV P p f xs ts' ys out nw](ht:ni sl args=ς ts)(hM:mkM xs ob ts' ts=ς m)(h:tnL xs ob m=ς x)(ha:app sl ob nx x=ς (st,e))(he:Eqs e)(w:PW N s0 args st G):PW N s0 args ⟨sl,ob,nx⟩ G:=λk=>w (aK k (tF ha he))
variable{d:Tmp}{ty:TypeId}{ps:String}{af:Array Edge}{gd:Option (Nat×Bool)}{tys:Array TypeId}{ops:Array Oper}{l:List Oper}{K:St->Prop}{sl':Lab}{ob':Laa}{e:Lac}
theorem awP(h1:prS [] sl=ς sl')(h2:prO [] ob=ς ob')(w:AWR P N ops l ⟨sl',ob',nx⟩ K):AWR P N ops l ⟨sl,ob,nx⟩ K:=ea (A5 h1 h2) w
theorem awL(q:p)[i:FCV P p f xs ts' ys out nw](ht:ni sl args=ς ts)(hM:mkM xs ob ts' ts=ς m)(hL:wnL (lnX m xs) sl ob=ς (sl',ob',e))(he:Eqs e)(w:AWR P N ops (⟨ς d,.call ⟨.value (.func f),args.toArray,tys⟩,ty,ps,af,gd⟩::l) ⟨sl',ob',nx⟩ K):AWR P N ops (⟨ς d,.call ⟨.value (.func f),args.toArray,tys⟩,ty,ps,af,gd⟩::l) ⟨sl,ob,nx⟩ K:=ea (zh hL he) w
theorem pwP(h1:prS [] sl=ς sl')(h2:prO [] ob=ς ob')(w:PW N s0 args ⟨sl',ob',nx⟩ G):PW N s0 args ⟨sl,ob,nx⟩ G:=λk=>w (aK k (A5 h1 h2))
theorem pwL(q:p)[i:FCV P p f xs ts' ys out nw](ht:ni sl args=ς ts)(hM:mkM xs ob ts' ts=ς m)(hL:wnL (lnX m xs) sl ob=ς (sl',ob',e))(he:Eqs e)(w:PW N s0 args ⟨sl',ob',nx⟩ G):PW N s0 args ⟨sl,ob,nx⟩ G:=λk=>w (aK k (zh hL he))
end
def uC(o j:Nat)(cs:List C)(ob:Laa):Laa:=match go ob o with
 |some (.var t ds)=>(o,.var t (ds.take j++(cs++ds.drop (j+cs.length))))::ob
 |_=>ob
def fxT(ob:Laa)(k:Nat):List C->Option Fx
 |[]=>ξ
 | .w o _::cs=>bif rsv o then fxT ob k cs else match go ob o with
  |some (.row _ _ _ (.b _) ζ)=>ς (.fz o)
  |_=>ς (.cs (.s k))
 | .wn o _::cs=>bif rsv o then fxT ob k cs else ς (.fn o)
 |_::cs=>fxT ob k cs
def fxA(sl:Lab)(ob:Laa):List Operand->Option Fx
 |[]=>ξ
 | .tmp k::r=>match fxT ob k (P9 (gt sl k)) with
  |some x=>ς x
  |none=>fxA sl ob r
 |_::r=>fxA sl ob r
def lnR:List C->List RC->Lac
 | .w o _::cs,.own _ _ _ n::rs=>(o,n)::lnR cs rs
 |_::cs,_::rs=>lnR cs rs
 |_,_=>[]
def lnRs(sl:Lab)(ob:Laa):List ResultVar->List RV->Lac
 |r::rs,v::vs=>lnR (OI sl ob r).1 (rcsV v)++lnRs sl ob rs vs
 |_,_=>[]
section
variable{P:Program}{N:Nat}{d:Tmp}{ty t:TypeId}{ps:String}{af:Array Edge}{gd:Option (Nat×Bool)}{f:FuncId}{args:List Operand}{tys:Array TypeId}{sl sl':Lab}{ob ob' ob1 ob2:Laa}{nx:Nat}{ts ts':List T}{xs ys ys' nw nw':Laa}{out out':T}{p G:Prop}{m e:Lac}{x y:Operand}{fxx:Fx}{st s0:St}{ops:Array Oper}{l:List Oper}{K:St->Prop}{rs:List ResultVar}{res:List RV}{ex:Exit}{z:Ob}
theorem aZx(h:fxA sl ob args=ς fxx)(ha:app sl ob nx fxx=ς (st,e))(he:Eqs e)(w:AWR P N ops (⟨ς d,.call ⟨.value (.func f),args.toArray,tys⟩,ty,ps,af,gd⟩::l) st K):AWR P N ops (⟨ς d,.call ⟨.value (.func f),args.toArray,tys⟩,ty,ps,af,gd⟩::l) ⟨sl,ob,nx⟩ K:=ea (tF ha he) w
theorem aSx(h:fxA sl ob [y]=ς fxx)(ha:app sl ob nx fxx=ς (st,e))(he:Eqs e)(w:AWR P N ops (⟨ξ,.store t x y,ty,ps,af,gd⟩::l) st K):AWR P N ops (⟨ξ,.store t x y,ty,ps,af,gd⟩::l) ⟨sl,ob,nx⟩ K:=ea (tF ha he) w
theorem pwX(h:fxA sl ob args=ς fxx)(ha:app sl ob nx fxx=ς (st,e))(he:Eqs e)(w:PW N s0 args st G):PW N s0 args ⟨sl,ob,nx⟩ G:=λk=>w (aK k (tF ha he))
theorem pW{sl2:Lab}(h1:prS [] sl=ς sl')(h2:prO [] ob=ς ob')(hL:wnL (lnRs sl' ob' rs res) sl' ob'=ς (sl2,ob1,e))(he:Eqs e)(w:tD N P rs res ex ⟨sl2,ob1,nx⟩):tD N P rs res ex ⟨sl,ob,nx⟩:=G6 (aK (A5 h1 h2) (zh hL he)) w
end
def fxQ(ob:Laa)(pl:Nat->Pl):Nat->List C->List RC->Option Fx
 |j,.w o _::cs,r::rs=>match r with
  | .d _=>match go ob o with
   |some (.row _ _ _ (.b _) ζ)=>ς (.fz o)
   |_=>ς (.cs (pl j))
  |_=>fxQ ob pl (j+1) cs rs
 |j,.nil::cs,r::rs=>match r with
  | .d _=>ς (.ls (pl j))
  |_=>fxQ ob pl (j+1) cs rs
 |j,_::cs,_::rs=>fxQ ob pl (j+1) cs rs
 |_,_,_=>ξ
def fxR(sl:Lab)(ob:Laa):List ResultVar->List RV->Option Fx
 |r::rs,v::vs=>match fxQ ob (λj=>bif(OI sl ob r).2.2 then(match v with
  | .c _=>.s (OI sl ob r).2.1
  | .agg _=>.a (OI sl ob r).2.1 j) else .v (OI sl ob r).2.1 j) 0 (OI sl ob r).1 (rcsV v) with
  |some x=>ς x
  |none=>fxR sl ob rs vs
 |_,_=>ξ
def gIn(N:Nat)(ops:Array Oper)(sl:Lab)(g:Option (Nat×Bool))(x:Inf):Option Inf:=match g with
 |none=>ς x
 |some (j,b)=>match(ops[j]?).bind (·.dst) with
  |none=>ξ
  |some dj=>match gt sl dj,nlt dj N with
   | .v (.c (.d η (.b c))),ζ=>bif c==b then ς {x with needs:=(.tmp dj,tB b)::x.needs} else ξ
   |_,_=>ξ
theorem Fm{ops:Array Oper}{g:Option (Nat×Bool)}{x x':Inf}(h:gIn N ops sl g x=ς x'):(g=ξ/\x'=x)\/∃j b dj,g=ς (j,b)/\(ops[j]?).bind (·.dst)=ς dj/\nlt dj N=ζ/\gt sl dj=tB b/\x'={x with needs:=(.tmp dj,tB b)::x.needs}:=by
 unfold gIn at h
 split at h
 .cases h;exact .inl ⟨rfl,rfl⟩
 split at h
 .cases h
 split at h
 .rename_i j b q dj hj q1 q2 c h1 h2
  cases hc:c==b with
  |false=>rw[hc] at h;cases h
  |true=>rw[hc] at h;cases h;have:=eq_of_beq hc;subst this;exact .inr ⟨_,_,_,rfl,hj,h2,h1,rfl⟩
 cases h
section
variable{P:Program}{N:Nat}{d:Tmp}{ty t:TypeId}{ps:String}{af:Array Edge}{gd:Option (Nat×Bool)}{f:FuncId}{args:List Operand}{tys:Array TypeId}{sl sl':Lab}{ob ob' ob1 ob2:Laa}{nx:Nat}{ts ts':List T}{xs ys ys' nw nw':Laa}{out out':T}{p G:Prop}{m e:Lac}{st st' s0:St}{ops:Array Oper}{l:List Oper}{K:St->Prop}{rs:List ResultVar}{res:List RV}{ex:Exit}{z:Ob}{up:Bool}{fxx:Fx}{o:Oper}{x x':Inf}{R:Prop}{is:List Inf}{KK:List Inf->St->Prop}{lz:List (Nat×Oper)}{dn seg:List Nat}{zs:List Inx}{base:St}{q:Nat}
theorem nU(h:NS P N o st st' x)(hr:R)(hg:gIn N ops st.sl o.guard x=ς x':=by exact rfl)(w:R->AWR P N ops l st' K:=by exact wJ):AWR P N ops (o::l) st K:=by
 rcases Fm hg with⟨h1,_⟩|⟨j,b,dj,h1,h2,h3,h4,_⟩
 .exact uJ h1 h (w hr)
 exact Bl h1 h2 h3 h4 h (w hr)
theorem dN(h:NS P N o st st' x)(hr:R)(hg:gIn N ops st.sl o.guard x=ς x':=by exact rfl)(w:R->DR P N ops l (is++[x']) st' KK:=by exact wJ):DR P N ops (o::l) is st KK:=by
 rcases Fm hg with⟨h1,e⟩|⟨j,b,dj,h1,h2,h3,h4,e⟩<;>subst e
 .exact dr_n h1 h (w hr)
 exact Qu h1 h2 h3 h4 h (w hr)
theorem zN(h:NS P N o st st' x)(hr:R)(hg:gIn N ops st.sl o.guard x=ς x':=by exact rfl)(w:R->DZ P N ops lz dn (seg++[q]) (zs++[⟨x',[],ξ⟩]) base st' K:=by exact wJ):DZ P N ops ((q,o)::lz) dn seg zs base st K:=by
 rcases Fm hg with⟨h1,e⟩|⟨j,b,dj,h1,h2,h3,h4,e⟩<;>subst e
 .exact s3 h1 h (w hr)
 exact LO h1 h2 h3 h4 h (w hr)
theorem pX(h:fxR sl ob rs res=ς fxx)(ha:app sl ob nx fxx=ς (st,e))(he:Eqs e)(w:tD N P rs res ex st):tD N P rs res ex ⟨sl,ob,nx⟩:=G6 (tF ha he) w
theorem rX(h:fxR sl ob rs res=ς fxx)(ha:app sl ob nx fxx=ς (st,e))(he:Eqs e)(w:pP N P rs res z ex st):pP N P rs res z ex ⟨sl,ob,nx⟩:=Xl (tF ha he) w
theorem cvB(up:Bool)(q:p)[i:FCV P p f xs ts' ys out nw](ht:ni sl args=ς ts:=by exact rfl)(hM:mkM xs ob ts' ts=ς m:=by exact rfl)(ha:og (agC up ob (inv m)) ts=ς ts':=by exact rfl)(hx:wL (inv m) ob m=ς xs:=by exact rfl)(hm:mOK m (nlM nw nx) nx (nlN nw nx) ys=true:=by exact rfl)(hs:lL (kvC (inv m)) sl=ς sl':=by exact rfl)(hb:kr (kvC (inv m)) (λ_ x=>ς x) ob=ς ob':=by exact rfl)(hy:qx (m++nlM nw nx) ys=ς ys':=by exact rfl)(hw:qx (m++nlM nw nx) nw=ς nw':=by exact rfl)(ho:sJ (rlC (m++nlM nw nx)) out=ς out':=by exact rfl)(hsl:uF nx sl=true:=by exact rfl)(hol:oR nx ob=true:=by exact rfl)(hN:nlt d N=true:=by exact rfl)(h1:apO ys' ob'=ς ob1:=by exact rfl)(h2:apO nw' ob1=ς ob2:=by exact rfl):
 AWO P N ⟨ς d,.call ⟨.value (.func f),args.toArray,tys⟩,ty,ps,af,gd⟩ ⟨sl,ob,nx⟩ ⟨(d,out')::sl',ob2,nlN nw nx⟩:=by
 rw[mY h2,mY h1]
 exact FY (i.h q) ht ha hx hm hs hb hy hw ho hsl hol hN
end
class FCF(P:Program)(p:Prop)(f:outParam FuncId)(as:outParam (List AV))(rs:outParam (List RV)):Prop where
 h:p->Fn P f as rs
section
variable{P:Program}{N:Nat}{d:Tmp}{ty t:TypeId}{ps:String}{af:Array Edge}{gd:Option (Nat×Bool)}{f:FuncId}{args:List Operand}{tys:Array TypeId}{sl:Lab}{ob ob':Laa}{nx n:Nat}{ts:List T}{nw nob:Laa}{out:T}{p:Prop}{e:Lac}{st:St}{ops:Array Oper}{l:List Oper}{K:St->Prop}{res:List RV}{fxx:Fx}{len:Nat}{parts:List (Nat×Operand)}{avs:List AV}{eqs:Lac}
theorem aBx(h:fxA sl ob (parts.map (·.2))=ς fxx)(ha:app sl ob nx fxx=ς (st,e))(he:Eqs e)(w:AWR P N ops (⟨ς d,.buildSlice t len parts.toArray,ty,ps,af,gd⟩::l) st K):AWR P N ops (⟨ς d,.buildSlice t len parts.toArray,ty,ps,af,gd⟩::l) ⟨sl,ob,nx⟩ K:=ea (tF ha he) w
structure HX(d:Tmp):Prop where
theorem hx(d:Tmp):HX d:=⟨⟩
theorem caZ(J:HX d)(q:p)[i:FC P p f avs res](hz:BK res:=by repeat (first|exact θ|refine⟨?_,?_⟩|exact lm _|rfl))(ht:ni sl args=ς ts:=by exact rfl)(hp:oi ob (Ag ts)=ς nob:=by exact rfl)(ha:qN nob ts=ς (avs,eqs):=by exact rfl)(he:Eqs eqs:=by repeat (first|exact θ|refine⟨by first|rfl|exact lm _|simp,?_⟩))(hi:xi nx (res.map RV.frz)=ς (out,nw,n):=by exact rfl)(hw:zL nx nw n=true:=by exact rfl)(hN:nlt d N=true:=by exact rfl)(hob:apO nw ob=ς ob':=by exact rfl):
 NS P N ⟨ς d,.call ⟨.value (.func f),args.toArray,tys⟩,ty,ps,af,gd⟩ ⟨sl,ob,nx⟩ ⟨(d,out)::sl,ob',n⟩ ⟨d,args.zip ts,nob,out,nw⟩:=ca ht hp ha ((i.h q).frzs hz) he hi hw hN hob
theorem caY(J:HX d)(q:p)[i:FCF P p f avs res](ht:ni sl args=ς ts:=by exact rfl)(hp:oi ob (Ag ts)=ς nob:=by exact rfl)(ha:qN nob ts=ς (avs,eqs):=by exact rfl)(he:Eqs eqs:=by repeat (first|exact θ|refine⟨by first|rfl|exact lm _|simp,?_⟩))(hi:xi nx res=ς (out,nw,n):=by exact rfl)(hw:zL nx nw n=true:=by exact rfl)(hN:nlt d N=true:=by exact rfl)(hob:apO nw ob=ς ob':=by exact rfl):
 NS P N ⟨ς d,.call ⟨.value (.func f),args.toArray,tys⟩,ty,ps,af,gd⟩ ⟨sl,ob,nx⟩ ⟨(d,out)::sl,ob',n⟩ ⟨d,args.zip ts,nob,out,nw⟩:=ca ht hp ha (i.h q) he hi hw hN hob
end
theorem zBa{ops:Array Oper}{lz:List (Nat×Oper)}{dn seg dn':List Nat}{ys:List Inx}{base st1:St}{K:St->Prop}{o:Oper}{p:Nat}{R:Prop}(h:AWO P N o s st1)(hr:R)(hb:Bn ops (seg++dn) p=true:=by exact rfl)(hg:o.guard=none:=by exact rfl)(hs:vf ops dn seg ys=true:=by kernel_rfl)(hkl:kls ys=[]:=by exact rfl)(hlo:p::(seg++dn)=dn':=by exact rfl)(w:R->DZ P N ops lz dn' [] [] st1 st1 K:=by exact wJ):DZ P N ops ((p,o)::lz) dn seg ys base s K:=zB (jv _) (jP hg h) cr hr hs hkl hb hlo w
section
variable{P:Program}{N:Nat}{st st':St}{ops:Array Oper}{l:List Oper}{K:St->Prop}{o:Oper}{R:Prop}{is:List Inf}{KK:List Inf->St->Prop}{lz:List (Nat×Oper)}{dn seg:List Nat}{ys:List Inx}{base:St}{q j:Nat}{b:Bool}
def gNo(N:Nat)(ops:Array Oper)(sl:Lab)(g:Option (Nat×Bool)):Bool:=(gIn N ops sl g ⟨0,[],[],.any,[]⟩).isSome
theorem sU(h:AWO P N o st st')(hr:R)(hg:gNo N ops st.sl o.guard=true:=by exact rfl)(w:R->AWR P N ops l st' K:=by exact wJ):AWR P N ops (o::l) st K:=by
 obtain⟨x,hx⟩:=Option.isSome_iff_exists.1 hg
 rcases Fm hx with⟨h1,_⟩|⟨j,b,dj,h1,h2,h3,h4,_⟩
 .exact iu h1 h (w hr)
 exact jq h1 h2 (bO h3) h4 h (w hr)
end
section
variable{P:Program}{N:Nat}{d:Tmp}{ty t:TypeId}{ps:String}{af:Array Edge}{gd:Option (Nat×Bool)}{x y:Operand}{sl sl':Lab}{ob ob':Laa}{nx:Nat}{α:Type}{enc:α->List D}{e sz by_ o n:Nat}{ys zs:List α}{g gy gg:Bool}{c:C}
theorem apTe[da P t e sz by_][EnT P e α enc](H:cW by_ (ys++zs).length=ζ)(hne:zs≠[]:=by first|exact List.cons_ne_nil _ _|simp)(hd:nlt d N=true:=by exact rfl)(hx:opT sl x= .v (.c (.wn o n)):=by exact rfl)(ho:go ob o=ς (.rown e sz (ys.map enc) g):=by exact rfl)(hy:opT sl y= .v (.c c):=by exact rfl)(hn:ys.length=n:=by first|rfl|simp)(hs:Src ob c (zs.map enc) gy:=by first|exact .d|exact .nil|exact .w rfl (by first|rfl|exact lm _|simp)|exact .wn rfl (by first|rfl|exact lm _|simp))(henc:∀a,(enc a).length=sz:=by exact λ_=>rfl)(hk:gI o sl=ς sl':=by exact rfl)(hkb:gP o ob=ς ob':=by exact rfl)(hg:(g&&gy)=gg:=by exact rfl)(hrv:rsp o=false:=by exact rfl)(hnv:rsv nx=false:=by exact rfl)(hol:nlt o nx=true:=by exact rfl):
 AWO P N ⟨ς d,.call ⟨.builtin .append,#[x,y],#[t,t]⟩,ty,ps,af,gd⟩ ⟨sl,ob,nx⟩ ⟨(d,.v (.c (.w o (ys++zs).length)))::sl',(o,.row e sz ((ys++zs).map enc) gg ζ)::ob',nx⟩:=GU H hne rfl henc hn hs hd hx hy ho hk hkb hg hrv hnv hol
theorem cpS{l:Int}[da P t e sz by_][EnT P e α enc](hd:nlt d N=true:=by exact rfl)(hx:opT sl x= .v (.c (.s o sz l.toNat (n-l.toNat))):=by exact rfl)(ho:go ob o=ς (.row e sz (ys.map enc) g ζ):=by exact rfl)(H:fH ys l ys.length=true:=by assumption)(hy:opT sl y= .v (.c c):=by exact rfl)(hn:ys.length=n:=by first|rfl|simp)(hs:Src ob c (zs.map enc) gy:=by first|exact .d|exact .w rfl (by first|rfl|exact lm _|simp)|exact I6 (by assumption) (by first|rfl|simp) rfl)(henc:∀a,(enc a).length=sz:=by exact λ_=>rfl)(hg:(g&&gy)=gg:=by exact rfl):
 AWO P N ⟨ς d,.call ⟨.builtin .copy,#[x,y],#[t,t]⟩,ty,ps,af,gd⟩ ⟨sl,ob,nx⟩ ⟨(d,.any)::sl,(o,.row e sz ((cpD ys l.toNat zs).map enc) gg ζ)::ob,nx⟩:=cpsT H rfl henc hd hx hy hn hs ho hg
end
section
variable{p G:Prop}
theorem eqs(h:p:=by repeat (first|exact θ|refine⟨by first|rfl|exact lm _|simp,?_⟩)):p:=h
theorem rvs(h:p:=by repeat' (first|exact .nil|apply it.cons|exact .tmp rfl|exact .cell rfl rfl rfl|exact .cell1 rfl rfl)):p:=h
theorem los(h:p:=by repeat (first|exact θ|refine⟨rfl,?_⟩)):p:=h
theorem wl(h:p:=by((try refine fxU rfl ?_);refine fxP rfl rfl ?_;(repeat refine fxF rfl rfl eqs ?_);exact wg)):p:=h
theorem nq(q:p)(h:p->G:=by(intro q;first|exact caF q|exact ns_fn (by exact rfl) (caF q)|exact xdF q|exact xwT q|exact AD q)):G:=h q
theorem nh(q:p)(h:p->G:=by(intro h;first|exact mkF h|exact ir rfl rfl rfl (ne0 h)|exact iq rfl rfl rfl (ne0 h)|exact cdhF h|exact cdlF h|exact ishT h rfl rfl rfl rfl|exact Xo h (by first|rfl|simp) rfl rfl rfl rfl|exact Xp h (by first|rfl|simp) rfl rfl rfl rfl)):G:=h q
theorem n0(h:G:=by first|exact oeaF|exact oeF|exact oeanF|exact oenF|exact ir rfl rfl rfl (by decide)|exact iq rfl rfl rfl (by decide)|exact ishF rfl rfl rfl rfl rfl):G:=h
theorem aw(q:p)(h:p->G:=by(intro q;first|exact cwF q|exact cvB ζ q|exact cvU q|exact cvB η q)):G:=h q
end
structure HA(id p q:Nat)(o1 o2:List Nat){α:Type}(F:FSt α):Prop
theorem hA(id p q:Nat)(o1 o2:List Nat)(F:FSt α):HA id p q o1 o2 F:=⟨⟩
theorem ja{p:Nat}{o1 o2:List Nat}{β:Type}{x:Option α}{f:α->Option β}{y:β}{F:FSt α}{AQ:Exit->St->Prop}{ob:Laa}{ll:List Oper}{r1 r2:List (Nat×Oper)}(H:x.bind f=ς y)(J:HA id p q o1 o2 F)[c:Clo N AQ](w1:∀v,x=ς v->DZ P N (kF ll p q).toArray r1 [] [] [] ⟨sl,ob,nx⟩ ⟨sl,ob,nx⟩ (λs=>cB N s (F v sl ob nx)))(w2:∀v,x=ς v->DZ P N (kF ll q p).toArray r2 [] [] [] ⟨sl,ob,nx⟩ ⟨sl,ob,nx⟩ (λs=>cB N s (F v sl ob nx)))(w3:∀v,f v=ς y->AQ .normal (F v sl ob nx))(hpq:d0 p q=false:=by exact rfl)(hm:P.follows .mixedOrders=true:=by exact Try.follows)(e1:Fh (kF ll p q).toArray o1=true:=by kernel_rfl)(c1:JN (kF ll p q).length o1=true:=by kernel_rfl)(h1:Ce (kF ll p q) o1=ς r1:=by exact rfl)(e2:Fh (kF ll q p).toArray o2=true:=by kernel_rfl)(c2:JN (kF ll q p).length o2=true:=by kernel_rfl)(h2:Ce (kF ll q p) o2=ς r2:=by exact rfl):AWC P N (.region id ll.toArray ζ) ⟨sl,ob,nx⟩ AQ:=by
 obtain⟨v,k1,k2⟩:=aaZ.1 H
 exact AH _ hm (sW p q hpq (tH o1 e1 c1 h1 (w1 v k1)) (tH o2 e2 c2 h2 (w2 v k1))) (w3 v k2)
theorem go0{p:Prop}(h:p->G:=by
 intro H
 refine wI ?_
 repeat' (first
 |(refine iR ?_;first
 |(refine aa H ?_;intro x q H;first|refine nU (nq q) ?_|((repeat refine cvN q rfl rfl rfl rfl eqs ?_);refine sU (aw q) ?_))
 |refine aZx rfl rfl eqs ?_
 |(refine aa H ?_;intro x q H;refine awP rfl rfl ?_;refine awL q rfl rfl rfl eqs ?_;(repeat refine cvN q rfl rfl rfl rfl eqs ?_);refine sU (aw q) ?_)
 |(refine aq H ?_;intro h H;first|refine nU (nh h) ?_|refine sU (apEf h) ?_|refine sU (apE h) ?_|refine sU (apTe h) ?_)
 |(refine aBx rfl rfl eqs ?_;(repeat refine aBx rfl rfl eqs ?_);refine wI ?_)
 |refine nU n0 ?_|refine sU cpFf ?_|refine sU cpF ?_|refine sU cpS ?_
 |(refine rSt ?_;first|refine aSu rfl rfl (by assumption) rfl rfl ?_|refine aSx rfl rfl eqs ?_|(refine rSo rfl rfl (by assumption) ?_;intro tg;rw[tg.eq] at H;generalize hv:Nx _ _ _=v at H;refine sU (soM hv) ?_;subst hv;simp only[Nx] at H))
 |(refine rU rfl ?_;first|(refine jr H rfl rfl (by assumption) ?_ ?_<;>((first|(refine pE ?_;intro _;(repeat (refine pE ?_;intro _));intro v H;(try dsimp only))|intro v H);refine wI ?_))|(refine gC H ?_ ?_<;>intro H)))
 |(refine cK ?_;first|(refine jc H (by assumption) ?_ ?_<;>((first|(refine pE ?_;intro _;(repeat (refine pE ?_;intro _));intro v H;(try dsimp only))|intro v H);refine wI ?_))|(refine cC H ?_ ?_<;>intro H))
 |(refine cL ?_;first|(refine jb H (by assumption) ?_ ?_<;>((first|(refine pE ?_;intro _;(repeat (refine pE ?_;intro _));intro v H;(try dsimp only))|intro v H);refine wI ?_))|(refine il H (by assumption) wl ?_;((first|(refine pE ?_;intro _;(repeat (refine pE ?_;intro _));intro v o H;(try dsimp only))|intro v o H);refine wI ?_)))
 |(refine cR ?_;first|(refine iHZ (by assumption) ?_;refine zR ?_)|(refine ja H (by assumption) ?_ ?_ ?_<;>((first|(refine pE ?_;intro _;(repeat (refine pE ?_;intro _));intro v H;(try dsimp only))|intro v H);refine wI ?_))|refine dI ?_)
 |(refine are H ?_;intro H;refine wI ?_)
 |(refine arr H ?_;intro H;refine wI ?_)
 |(refine iD ?_;first
 |(refine aa H ?_;intro x q H;first|refine dN (nq q) ?_|refine dN (caY (by assumption) q) ?_)
 |(refine aq H ?_;intro h H;refine dN (nh h) ?_)
 |refine dN n0 ?_
 |(refine dU rfl ?_;first|(refine jd H rfl rfl (by assumption) ?_ ?_<;>((first|(refine pE ?_;intro _;(repeat (refine pE ?_;intro _));intro v H;(try dsimp only))|intro v H);refine wI ?_))|(refine dC H ?_ ?_<;>intro H)))
 |(refine iZ ?_;first
 |(refine iZs ?_;first|refine zS ?_|(refine zSt ?_;(repeat (first|refine pwU rfl rfl (by assumption) rfl rfl ?_|refine pwX rfl rfl eqs ?_));refine pwS rfl rfl (by assumption) ?_;intro tg;intro sw;rw[tg.eq] at H;generalize hv:Nx _ _ _=v at H;refine zBt sw (soM hv) ?_;subst hv;simp only[Nx] at H))
 |(refine aa H ?_;intro x q H;first|refine zN (caZ (by assumption) q) ?_|refine zN (caY (by assumption) q) ?_|refine zN (nq q) ?_|refine wA (cwX q) ?_|(refine zPc ?_;(repeat (first|refine pwT q rfl rfl rfl rfl eqs ?_|refine pwX rfl rfl eqs ?_));intro sw;refine zBt sw (aw q) ?_)|(refine zPc ?_;(repeat (first|refine pwT q rfl rfl rfl rfl eqs ?_|refine pwX rfl rfl eqs ?_));refine pwP rfl rfl ?_;refine pwL q rfl rfl rfl eqs ?_;(repeat (first|refine pwT q rfl rfl rfl rfl eqs ?_|refine pwX rfl rfl eqs ?_));intro sw;refine zBt sw (aw q) ?_))
 |(refine aq H ?_;intro h H;first|refine zN (nh h) ?_|refine zBa (apEf h) ?_|refine zBa (apE h) ?_|refine zBa (apTe h) ?_)
 |refine zBa cpFf ?_|refine zBa cpF ?_|refine zBa cpS ?_
 |refine zN n0 ?_
 |(refine zU rfl ?_;first|(refine jz H rfl rfl (by assumption) ?_ ?_<;>((first|(refine pE ?_;intro _;(repeat (refine pE ?_;intro _));intro v H;(try dsimp only))|intro v H);refine wI ?_))|(refine zC H ?_ ?_<;>intro H)))
 |(refine sgd H ?_;cases H;first|(refine iP ?_;(repeat refine pX rfl rfl eqs ?_);refine pW rfl rfl rfl eqs ?_;exact kn)|(refine iE ?_;(repeat refine pX rfl rfl eqs ?_);refine pW rfl rfl rfl eqs ?_;exact UX)|(refine iPv ?_;refine fvR rfl rfl rfl wl rvs los los)|(refine iEv ?_;refine fvE rfl rfl rfl wl rvs los los)|(refine iPw ?_;(repeat refine rX rfl rfl eqs ?_);exact QK)|(refine iEw ?_;(repeat refine rX rfl rfl eqs ?_);exact QI)|(refine iW ?_;exact wl)|(refine uU ?_;exact wl)|(refine Fw (λhq=>?_);cases hq;refine wI ?_;refine iW ?_;exact wl)))):p->G:=h
theorem gG{fn:Func}{c:Code}{sl0:Lab}{args:List AV}{p A B C D E F H I J K L M O Q S U W Q1 Q2 Q3 Q4 Q5 Q6 Q7 Q8:Prop}(hf:P.funcs[f]?=ς fn)(hN:fn.ntmps=N)(hA:A:=by exact θ)(hB:B:=by exact θ)(hC:C:=by exact θ)(hD:D:=by exact θ)(hE:E:=by exact θ)(hF:F:=by exact θ)(hG:G:=by exact θ)(hH:H:=by exact θ)(hI:I:=by exact θ)(hJ:J:=by exact θ)(hK:K:=by exact θ)(hL:L:=by exact θ)(hM:M:=by exact θ)(hO:O:=by exact θ)(hQ:Q:=by exact θ)(hS:S:=by exact θ)(hU:U:=by exact θ)(hW:W:=by exact θ)(hQ1:Q1:=by exact θ)(hQ2:Q2:=by exact θ)(hQ3:Q3:=by exact θ)(hQ4:Q4:=by exact θ)(hQ5:Q5:=by exact θ)(hQ6:Q6:=by exact θ)(hQ7:Q7:=by exact θ)(hQ8:Q8:=by exact θ)(hb:fn.body=ς c:=by exact rfl)(hnm:(fn.name== "runtime.NumGoroutine")=false:=by kernel_rfl)(hrs:fn.results.toList=rs:=by exact rfl)(ha:Zw args.length N=true:=by exact rfl)(hs:E6 0 args=ς sl0:=by exact rfl)(w:A->B->C->D->E->F->G->H->I->J->K->L->M->O->Q->S->U->W->Q1->Q2->Q3->Q4->Q5->Q6->Q7->Q8->p->AWC P N c ⟨sl0,[],0⟩ (tD N P rs res):=by
 intros _ _ _ _ _ _ _ _ _ _ _ _ _ _ _ _ _ _ _ _ _ _ _ _ _ _
 exact go0):FC P p f args res:=⟨λq=>WB hf hb hnm hN hrs ha hs (w hA hB hC hD hE hF hG hH hI hJ hK hL hM hO hQ hS hU hW hQ1 hQ2 hQ3 hQ4 hQ5 hQ6 hQ7 hQ8 q)⟩
theorem gV{fn:Func}{c:Code}{sl0:Lab}{xs ys nw:Laa}{args:List T}{p A B C D E F H I J K L M O Q S U W Q1 Q2 Q3 Q4 Q5 Q6 Q7 Q8:Prop}(hf:P.funcs[f]?=ς fn)(hN:fn.ntmps=N)(hA:A:=by exact θ)(hB:B:=by exact θ)(hC:C:=by exact θ)(hD:D:=by exact θ)(hE:E:=by exact θ)(hF:F:=by exact θ)(hG:G:=by exact θ)(hH:H:=by exact θ)(hI:I:=by exact θ)(hJ:J:=by exact θ)(hK:K:=by exact θ)(hL:L:=by exact θ)(hM:M:=by exact θ)(hO:O:=by exact θ)(hQ:Q:=by exact θ)(hS:S:=by exact θ)(hU:U:=by exact θ)(hW:W:=by exact θ)(hQ1:Q1:=by exact θ)(hQ2:Q2:=by exact θ)(hQ3:Q3:=by exact θ)(hQ4:Q4:=by exact θ)(hQ5:Q5:=by exact θ)(hQ6:Q6:=by exact θ)(hQ7:Q7:=by exact θ)(hQ8:Q8:=by exact θ)(hb:fn.body=ς c:=by exact rfl)(hnm:(fn.name== "runtime.NumGoroutine")=false:=by kernel_rfl)(hrs:fn.results.toList=rs:=by exact rfl)(ha:Zw args.length N=true:=by exact rfl)(hs:tG 0 args=sl0:=by exact rfl)(w:A->B->C->D->E->F->G->H->I->J->K->L->M->O->Q->S->U->W->Q1->Q2->Q3->Q4->Q5->Q6->Q7->Q8->p->AWC P N c ⟨sl0,xs,210⟩ (mU N P rs ys out nw):=by
 intros _ _ _ _ _ _ _ _ _ _ _ _ _ _ _ _ _ _ _ _ _ _ _ _ _ _
 exact go0):FCV P p f xs args ys out nw:=⟨λq=>J0 hf hb hnm hN hrs ha hs (w hA hB hC hD hE hF hG hH hI hJ hK hL hM hO hQ hS hU hW hQ1 hQ2 hQ3 hQ4 hQ5 hQ6 hQ7 hQ8 q)⟩
theorem gW{fn:Func}{c:Code}{sl0:Lab}{x y:Ob}{args:List T}{p A B C D E F H I J K L M O Q S U W Q1 Q2 Q3 Q4 Q5 Q6 Q7 Q8:Prop}(hf:P.funcs[f]?=ς fn)(hN:fn.ntmps=N)(hA:A:=by exact θ)(hB:B:=by exact θ)(hC:C:=by exact θ)(hD:D:=by exact θ)(hE:E:=by exact θ)(hF:F:=by exact θ)(hG:G:=by exact θ)(hH:H:=by exact θ)(hI:I:=by exact θ)(hJ:J:=by exact θ)(hK:K:=by exact θ)(hL:L:=by exact θ)(hM:M:=by exact θ)(hO:O:=by exact θ)(hQ:Q:=by exact θ)(hS:S:=by exact θ)(hU:U:=by exact θ)(hW:W:=by exact θ)(hQ1:Q1:=by exact θ)(hQ2:Q2:=by exact θ)(hQ3:Q3:=by exact θ)(hQ4:Q4:=by exact θ)(hQ5:Q5:=by exact θ)(hQ6:Q6:=by exact θ)(hQ7:Q7:=by exact θ)(hQ8:Q8:=by exact θ)(hb:fn.body=ς c:=by exact rfl)(hnm:(fn.name== "runtime.NumGoroutine")=false:=by kernel_rfl)(hrs:fn.results.toList=rs:=by exact rfl)(ha:Zw args.length N=true:=by exact rfl)(hfx:x.free=true:=by exact rfl)(hfy:y.free=true:=by exact rfl)(hs:tG 0 args=sl0:=by exact rfl)(w:A->B->C->D->E->F->G->H->I->J->K->L->M->O->Q->S->U->W->Q1->Q2->Q3->Q4->Q5->Q6->Q7->Q8->p->AWC P N c ⟨sl0,[(200,x)],210⟩ (pP N P rs res y):=by
 intros _ _ _ _ _ _ _ _ _ _ _ _ _ _ _ _ _ _ _ _ _ _ _ _ _ _
 exact go0):FCW P p f x args y res:=⟨λq=>QN hf hb hnm hN hrs ha hfx hfy hs (w hA hB hC hD hE hF hG hH hI hJ hK hL hM hO hQ hS hU hW hQ1 hQ2 hQ3 hQ4 hQ5 hQ6 hQ7 hQ8 q)⟩
def shF(P:Program)(sh:TypeId->Option (List Sh)):Nat->List Field->Option (List Sh)
 |_,[]=>ς []
 |o,f::fs=>match sh f.type with
  |some s1=>bif d0 f.offset o&&d0 (P.cellsOf f.type) s1.length then(match shF P sh (o+s1.length) fs with
   |some s2=>ς (s1++s2)
   |none=>ξ) else ξ
  |none=>ξ
def shO(P:Program):Nat->TypeId->Option (List Sh)
 |0,_=>ξ
 |n+1,t=>match P.underlying t with
  |some (.int k)=>ς [.i k]
  |some .bool=>ς [.b]
  |some .string=>ς [.str]
  |some (.slice e)=>match shO P n e with
   |some ss=>bif d0 (P.cellsOf e) ss.length&&Zw 1 ss.length then ς [.l ss] else ξ
   |none=>ξ
  |some (.struct fs)=>match shF P (shO P n) 0 fs.toList with
   |some ss=>bif d0 (P.cellsOf t) ss.length then ς ss else ξ
   |none=>ξ
  |_=>ξ
theorem SZ{P:Program}{sh:TypeId->Option (List Sh)}(h:∀t ss,sh t=ς ss->sS P t ss):∀{fs:List Field} {o:Nat} {ss:List Sh},shF P sh o fs=ς ss->HasFs P o fs ss
 |[],o,ss,e=>by cases e;exact .nil
 |f::fs,o,ss,e=>by
  rw[shF] at e
  split at e
  .rename_i s1 h1
   cases hb:d0 f.offset o&&d0 (P.cellsOf f.type) s1.length<;>rw[hb] at e
   .cases e
   simp only[hV] at hb
   simp only[cond_true] at e
   split at e
   .rename_i s2 h2
    cases e
    exact .cons (Zo hb.1) (h _ _ h1) (Zo hb.2) (SZ h h2)
   cases e
  cases e
theorem KN{P:Program}:∀{n:Nat} {t:TypeId} {ss:List Sh},shO P n t=ς ss->sS P t ss
 |0,t,ss,e=>by cases e
 |n+1,t,ss,e=>by
  rw[shO] at e
  split at e
  .rename_i h;cases e;exact .int h
  .rename_i h;cases e;exact .bool h
  .rename_i h;cases e;exact .string h
  .rename_i e' h
   split at e
   .rename_i s1 h1
    cases hb:d0 (P.cellsOf e') s1.length&&Zw 1 s1.length<;>rw[hb] at e
    .cases e
    simp only[hV] at hb
    cases e
    exact .slice h (KN h1) (Zo hb.1) (ZK hb.2)
   cases e
  .rename_i fs h
   split at e
   .rename_i s1 h1
    cases hb:d0 (P.cellsOf t) s1.length<;>rw[hb] at e
    .cases e
    cases e
    exact .struct h (SZ (λ_ _=>KN) h1) (Zo hb)
   cases e
  cases e
end Go.AM
namespace Go
def u7(N h:Nat):Nat:=Nat.mod (Nat.shiftRight N (10*h)) 1024
def ranked(P:Program)(N:Nat):Bool:=P.funcs.toList.zipIdx.all λy=>(P.leadsTo y.1).all λh=>Zw (u7 N h+1) (u7 N y.2)
theorem Eg{P:Program}{N:Nat}(h:ranked P N=ζ){g:Nat}{fn:Func}(hg:P.funcs[g]?=ς fn):∀x∈P.leadsTo fn,u7 N x<u7 N g:=by
 intro x hx
 unfold ranked at h
 rw[Zq] at h
 have h1:=h (fn,g) (by rw[List.mem_zipIdx_iff_getElem?];simpa using hg)
 rw[Zq] at h1
 exact ZK (h1 x hx)
theorem sr{P:Program}{N r:Nat}(h:ranked P N=ζ):∀(fuel:Nat) (todo seen:List FuncId),(∀x∈todo,u7 N x<=r)->(∀x∈seen,u7 N x<=r)->∀x∈P.closureVia fuel todo seen,u7 N x<=r
 |0,todo,seen,h1,h2,x,hx=>h2 x (by simpa [Program.closureVia] using hx)
 |n+1,[],seen,h1,h2,x,hx=>h2 x (by simpa [Program.closureVia] using hx)
 |n+1,f::todo,seen,h1,h2,x,hx=>by
  rw[Program.closureVia] at hx
  split at hx
  .exact sr h n todo seen (λy hy=>h1 y (by simp[hy])) h2 x hx
  refine sr h n _ (f::seen) (λy hy=>?_) (λy hy=>?_) x hx
  .rcases Zn.1 hy with hy|hy
   .cases e:P.funcs[f]? with
    |none=>rw[e] at hy;simp at hy
    |some fn=>
     rw[e] at hy
     have:=Eg h e y (by simpa using hy)
     have:=h1 f (by simp)
     omega
   exact h1 y (by simp[hy])
  rcases Zp.1 hy with rfl|hy
  .exact h1 _ (by simp)
  exact h2 y hy
theorem recurses_of{P:Program}{N:Nat}(h:ranked P N=ζ)(f:FuncId):P.recurses f=P.unfollowed f:=by
 unfold Program.recurses
 rw[show((P.closure f).any λg=>((P.funcs[g]?).elim [] P.leadsTo).any λh=>(P.closure h).contains g)=η from ?_]
 .simp
 rw[aa6]
 intro g hg
 rw[aa7,aa6]
 intro x hx
 rw[aa7]
 cases hc:(P.closure x).contains g with
 |false=>rfl
 |true=>
  have hm:g∈P.closure x:=by simpa using hc
  have h1:=sr h (r:=u7 N x) _ [x] [] (by simp) (by simp) g hm
  cases e:P.funcs[g]? with
  |none=>rw[e] at hx;simp at hx
  |some fn=>
   rw[e] at hx
   have:=Eg h e x (by simpa using hx)
   omega
def N2(P:Program)(l:List FuncId):List String:=
 l.filterMap λg=>(P.funcs[g]?).bind λfn=>if fn.ours||fn.body.isNone||fn.name== "runtime.NumGoroutine" then ς fn.name else ξ
def GA(P:Program)(l:List FuncId):Bool:=
 l.any λg=>(P.funcs[g]?).any λfn=>match fn.body with|some c=>c.unfollowed|none=>entryCalls fn
def Jm(P:Program)(l:List FuncId):List String:=
 (((l.flatMap λg=>((P.funcs[g]?).bind (·.body)).elim [] Code.globalsNamed).eraseDups).filterMap (λg=>(P.globals[g]?).map (·.name))++
  l.filterMap λg=>(P.funcs[g]?).bind λfn=>if fn.body.isNone then entryReads.lookup fn.name else ξ).eraseDups
theorem inPlace_is{P:Program}{f:FuncId}{l:List FuncId}(h:P.closure f=l):P.inPlace f=N2 P l:=by unfold Program.inPlace;rw[h];rfl
theorem unfollowed_is{P:Program}{f:FuncId}{l:List FuncId}(h:P.closure f=l):P.unfollowed f=GA P l:=by unfold Program.unfollowed;rw[h];rfl
theorem varsNamed_is{P:Program}{f:FuncId}{l:List FuncId}(h:P.closure f=l):P.varsNamed f=Jm P l:=by unfold Program.varsNamed;rw[h];rfl
end Go
