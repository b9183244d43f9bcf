/- A part. -/
import Derived.Test.YtljhooecmjejiaaGreatE6
import Derived.Laws.IdiomStrings
import Derived.JoinedOf
set_option linter.unusedVariables false
set_option linter.unusedSimpArgs false
open Array renaming getD_eq_getD_getElem?→Uf,getElem?_eq_none→Ub,getElem?_setIfInBounds_ne→Va,replicate→TZ,getElem?_eq_getElem→TA,setIfInBounds_comm→Vg,map_congr_left→Vi
open List renaming all_eq_true→TX,eq_nil_iff_forall_not_mem→Vd,getElem?_toArray→Vb,getElem?_append_right→Tz,getElem?_append_left→Tu,getElem?_cons_succ→Vh,length_map→Us,filter_eq_self→Ve,getElem?_take→TB,any_eq_false→UQ,mem_append→TW,mem_cons→Tq,range→TU
open Bool renaming and_eq_true→hV,not_eq_true→Vf,not_true→UY,false_or→U1
open Nat renaming beq→d0,eq_of_beq_eq_true→To,lt_or_ge→T9,lt_of_lt_of_le→Uc,zero_le→Ud,min_eq_left→Ul,ble→TC,le_trans→U0,zero_add→Tv,le_refl→Tt
namespace Go.AM
open Go.RowKit
theorem Mw {P:Program} {o:Oper} {needs:List (Operand×T)} {nob:List (Nat×Ob)} {q n e sz:Nat} {els:List (List D)} {g:Bool} (hn:els.length=n)
 (h:AWK P o needs nob (.v (.c (.w q n))) [(q,.row e sz els g true)] [] none):AWK P o needs nob (.v (.c (.d g (.l els)))) [(q,.row e sz els g false)] [] none:=by
 intro cx E a w ok hne hnob hfr
 obtain⟨hq1,hq2⟩:=hfr q _ (.head _)
 refine Oper.wp_mono ?_ (h cx E a w ok hne hnob (fun l x hm=>by simp at hm;obtain⟨rfl,_⟩:=hm;exact⟨hq1,hq2⟩))
 rintro a' w' ⟨v,E',k1,ok',k3,⟨b,c,hr,hv⟩,k5,k6,k7⟩
 obtain⟨b',c',arr,hr',hh,ha,hlc,hmx,hes,hrd,hFm,_⟩:=k5 q _ (.head _)
 rw[hr] at hr';cases hr'
 have hF:=hFm rfl
 obtain⟨hb1,hb2⟩:=ok'.rb q b c hr
 have hb3:cx.w0.heap.size≤b:=by
  rcases hb2 with h|h
  ·exact h
  ·rw[hq2] at h;cases h.2
 let E2:Env:=⟨E'.r,fun j=>E'.F j∨j=b,fun j=>E'.G j∨(g=true∧j=b),E'.T,E'.Z,E'.n⟩
 have hH:∀g' j,E'.H g' j→E2.H g' j:=fun g' j hj=>by cases g'<;>exact .inl hj
 have hold:∀l c',E.r l≠some (b,c'):=fun l c' hl=>by
  have h1:=k3.r l _ (by simp) hl
  have:=ok'.inj _ _ _ _ _ h1 hr
  subst this
  rw[hq1] at hl;cases hl
 refine⟨v,E2,k1,⟨?_,?_,?_,ok'.rb,ok'.inj,ok'.os,ok'.tape,ok'.output,ok'.size,ok'.block,ok'.pin,fun j hj=>hj.elim (ok'.ff j) (fun e=>.inr (e▸hb3)),fun j hj hj'=>hj.elim (fun h=>ok'.gc j h hj') (fun e=>e▸.mk hh),
  ⟨fun l j h=>?_,ok'.sf.tt,fun j h=>?_,ok'.sf.zs,ok'.sf.ze⟩⟩,⟨k3.r,fun j hj=>.inl (k3.F j hj),fun j hj=>.inl (k3.G j hj),?_,k3.heap,k3.own,k3.ownk,k3.T,k3.Z,k3.n⟩,?_,fun l x hm=>?_,(fun _ _ h=>by cases h),fun l x hl=>?_⟩
 ·rintro j (h|rfl)
  ·exact ok'.fb j h
  ·exact hb1
 ·rintro j (h|⟨_,rfl⟩)
  ·exact .inl (ok'.gf j h)
  ·exact .inr rfl
 ·rintro j (h|⟨_,rfl⟩)
  ·exact ok'.gn j h
  ·exact .inl hb3
 ·obtain⟨h1,h2,h3,h4⟩:=ok'.sf.tb l j h
  exact⟨h1,fun hk=>hk.elim h2 (fun e=>by subst e;exact h3 q c hr),h3,h4⟩
 ·obtain⟨h1,h2,h3,h4⟩:=ok'.sf.zc j h
  exact⟨h1,fun hk=>hk.elim h2 (fun e=>by subst e;exact h3 q c hr),h3,h4⟩
 ·rintro j (h|rfl)
  ·exact k3.F' j h
  ·exact .inr (.inr (fun l c' _=>hold l c'))
 ·refine⟨some ⟨b,0,none⟩,c,by rw[hv,hn],hlc,.inr ⟨b,0,rfl,?_,cm (fun _ _=>rfl) (hH g) rfl _ _ hrd⟩⟩
  cases g
  ·exact .inr rfl
  ·exact .inr ⟨rfl,rfl⟩
 ·simp at hm;obtain⟨rfl,rfl⟩:=hm
  exact⟨b,c,arr,hr,hh,ha,hlc,hmx,hes,cm (fun _ _=>rfl) (hH g) rfl _ _ hrd,(fun h=>by cases h),fun _=>⟨.inr rfl,fun hg=>.inr ⟨hg,rfl⟩⟩⟩
 ·rcases k7 l x hl with h|⟨ob,hm⟩
  ·exact .inl h
  ·simp at hm;obtain⟨rfl,_⟩:=hm;exact .inr ⟨_,.head _⟩
section
variable {P:Program} {N:Nat} {d:Tmp} {tt:TypeId} {ps:String} {af:Array Edge} {gd:Option (Nat×Bool)} {x y:Operand} {sl sl1 sl2:List (Nat×T)} {ob ob1:List (Nat×Ob)} {nx:Nat}
theorem olh {t:TypeId} {o i n k:Nat} {ty nt:TypeId} {els:List (Int×List Int)} {A:Option Addr} {e:Int×List Int} [TySc P t] (he:els[i]?=some e) (hx:opT sl x= .v (.c (.e o 2 i 1))) (ho:go ob o=some (.cxo o ty nt els (some (i,A,n,k)))) (hN:nlt d N=true):
 NS0 P N ⟨some d,.load t x,tt,ps,af,gd⟩ sl ob nx d (.v (.c (.d false (.k A n k)))) ⟨d,[(x,.v (.c (.e o 2 i 1)))],[(o,.cxo o ty nt els (some (i,A,n,k)))],.v (.c (.d false (.k A n k))),[]⟩:=db (st:=⟨sl,ob,nx⟩) (GG he) rfl hN ⟨hx,trivial⟩ ⟨ho,trivial⟩ rfl
theorem olx {t:TypeId} {o i:Nat} {ty nt:TypeId} {els:List (Int×List Int)} {e:Int×List Int} [TySc P t] (he:els[i]?=some e) (hx:opT sl x= .v (.c (.e o 2 i 1))) (ho:go ob o=some (.cxo o ty nt els none)) (hN:nlt d N=true):
 NS0 P N ⟨some d,.load t x,tt,ps,af,gd⟩ sl ob nx d (.v (.c (.r o (.l (e.2.map eI))))) ⟨d,[(x,.v (.c (.e o 2 i 1)))],[(o,.cxo o ty nt els none)],.v (.c (.r o (.l (e.2.map eI)))),[]⟩:=db (st:=⟨sl,ob,nx⟩) (Lw he rfl) rfl hN ⟨hx,trivial⟩ ⟨ho,trivial⟩ rfl
theorem Px {o:Oper} {needs:List (Operand×T)} {nob nw:List (Nat×Ob)} {out out':T} (h:AWN P o needs nob out nw) (ho:∀E w v,cvT E w out v→cvT E w out' v):AWN P o needs nob out' nw:=by
 intro cx E a w ok hn hb hf
 refine Oper.wp_mono ?_ (h cx E a w ok hn hb hf)
 rintro a' w' ⟨v,E',h1,h2,h3,h4,h5,h6⟩
 exact⟨v,E',h1,h2,h3,ho _ _ _ h4,h5,h6⟩
def nkC:C→C
 | .nil=>.d false (.k none 0 0)
 |c=>c
def Sm:List C→List C
 |[]=>[]
 |c::cs=>nkC c::Sm cs
theorem Sl {E:Env} {w:World} {c:C} {u:Value} (h:cvC E w c u):cvC E w (nkC c) u:=by
 cases c with
 |nil=>have h:u= .slice none 0 0:=h;subst h;show rdD _ _ _ _;rw[rdD]
 |_=>exact h
theorem J8 {E:Env} {w:World}:∀{cs:List C} {us:List Value},CV E w cs us→CV E w (Sm cs) us
 |[],[],_=>trivial
 |c::cs,u::us,h=>⟨Sl h.1,J8 h.2⟩
 |[],_::_,h=>h.elim
 |_::_,[],h=>h.elim
theorem bdk {t:TypeId} {zs cs cs':List C} {pl:List (Nat×Nat)} {parts:List (Nat×Operand)} {vs:List V} [TyZ P t zs] [TyB P t pl] (hv:Iu sl (parts.map (·.2))=some vs) (h:Ad pl zs ((parts.map (·.1)).zip vs)=some cs) (hk:Sm cs=cs') (hN:nlt d N=true):
 NS0 P N ⟨some d,.build t parts.toArray,tt,ps,af,gd⟩ sl ob nx d (.v (.agg cs')) ⟨d,(parts.map (·.2)).zip (vs.map T.v),[],.v (.agg cs'),[]⟩:=by
 subst hk
 obtain⟨h1,h2⟩:=zH hv
 exact db (st:=⟨sl,ob,nx⟩) (Px (J7 (by simpa using h1) h) (fun E w v ⟨arr,hu,hc⟩=>⟨arr,hu,J8 hc⟩)) rfl hN h2 trivial rfl
theorem bsx {nx':Nat} {t:TypeId} {e sz:Nat} {len:Nat} {parts:List (Nat×Operand)} {vs:List V} {els:List (List D)} {g:Bool} (h:NS P N ⟨some d,.buildSlice t len parts.toArray,tt,ps,af,gd⟩ ⟨sl,ob,nx⟩ ⟨(d,.v (.c (.w nx len)))::sl,(nx,.row e sz els g true)::ob,nx'⟩ ⟨d,(parts.map (·.2)).zip (vs.map T.v),[],.v (.c (.w nx len)),[(nx,.row e sz els g true)]⟩) (hn:els.length=len):
 NX P N ⟨some d,.buildSlice t len parts.toArray,tt,ps,af,gd⟩ ⟨sl,ob,nx⟩ ⟨(d,.v (.c (.d g (.l els))))::sl,(nx,.row e sz els g false)::ob,nx'⟩ ⟨⟨d,(parts.map (·.2)).zip (vs.map T.v),[],.v (.c (.d g (.l els))),[(nx,.row e sz els g false)]⟩,[],none⟩:=by
 obtain⟨h1,h2,h3,h4,h5,h6,h7⟩:=h
 exact⟨Mw hn (qQ (Ac h1)),.inl ⟨rfl,h3⟩,h4,h5,h6,rfl⟩
def RH (a:Int):List D:=[.i .i64 a,.k none 0 0]
end
end Go.AM
namespace Go.AM
open Go.RowKit
def fzC (nw:List (Nat×Ob)):C→Option (RC×List (Nat×Nat))
 | .d _ (.i k n)=>some (.d (.i k n),[])
 | .d _ (.b x)=>some (.d (.b x),[])
 | .d _ (.str s)=>some (.d (.str s),[])
 | .d true (.l xs)=>some (.d (.l xs),[])
 | .wn l n=>match go nw l with
  |some (.rown _ _ els true)=>some (.d (.l els),[(els.length,n)])
  |_=>none
 | .w l n=>match go nw l with
  |some (.row _ _ els true true)=>some (.d (.l els),[(els.length,n)])
  |_=>none
 |_=>none
def Na (nw:List (Nat×Ob)):List C→Option (List RC×List (Nat×Nat))
 |[]=>some ([],[])
 |c::cs=>match fzC nw c,Na nw cs with
  |some (r,e),some (rs,es)=>some (r::rs,e++es)
  |_,_=>none
def fzV (nw:List (Nat×Ob)):V→Option (RV×List (Nat×Nat))
 | .c c=>match fzC nw c with
  |some (r,e)=>some (.c r,e)
  |none=>none
 | .agg cs=>match Na nw cs with
  |some (r,e)=>some (.agg r,e)
  |none=>none
def Ig (nw:List (Nat×Ob)):List V→Option (List RV×List (Nat×Nat))
 |[]=>some ([],[])
 |c::cs=>match fzV nw c,Ig nw cs with
  |some (r,e),some (rs,es)=>some (r::rs,e++es)
  |_,_=>none
def fzT (nw:List (Nat×Ob)):T→Option (List RV×List (Nat×Nat))
 | .v v=>match fzV nw v with
  |some (r,e)=>some ([r],e)
  |none=>none
 | .tup (a::b::vs)=>Ig nw (a::b::vs)
 |_=>none
section
variable {nw:List (Nat×Ob)} {E:Env} {w:World} {G:Nat→Prop} {base:Nat} (hG:∀b,E.G b→G b) (hN:∀l y,go nw l=some y→cy E w l y) (hb:∀l y b c,go nw l=some y→E.r l=some (b,c)→gA w b→G b)
include hG hN hb
theorem M9 {c:C} {r:RC} {e:List (Nat×Nat)} {u:Value} (h:fzC nw c=some (r,e)) (he:Eqs e) (hc:cvC E w c u):rcR w G base r u []:=by
 cases c with
 |d g x=>
  cases x with
  |i k n=>simp[fzC] at h;obtain⟨rfl,rfl⟩:=h;exact⟨rfl,by simpa [cvC,rdD] using hc⟩
  |b n=>simp[fzC] at h;obtain⟨rfl,rfl⟩:=h;exact⟨rfl,by simpa [cvC,rdD] using hc⟩
  |str n=>simp[fzC] at h;obtain⟨rfl,rfl⟩:=h;exact⟨rfl,by simpa [cvC,rdD] using hc⟩
  |k A n c'=>simp[fzC] at h
  |l xs=>
   cases g with
   |false=>simp[fzC] at h
   |true=>simp[fzC] at h;obtain⟨rfl,rfl⟩:=h;exact⟨rfl,cj (fun _ _=>rfl) hG _ _ hc⟩
 |wn l n=>
  simp only[fzC] at h
  split at h
  ·rename_i ty sz els hg
   simp at h;obtain⟨rfl,rfl⟩:=h
   have hn:els.length=n:=he.1
   rcases hc with⟨h0,h1,h2⟩|⟨h0,b,c,h1,h2⟩
   ·subst h2;subst hn
    have:els=[]:=List.eq_nil_of_length_eq_zero h1
    subst this
    exact⟨rfl,none,0,rfl,Tt _,.inl rfl⟩
   ·rcases hN l _ hg with⟨k0,_⟩|⟨_,b',c',arr,k1,k2,k3,k4,k5,k6,k7,k8⟩
    ·exact absurd k0 h0
    ·rw[h1] at k1;cases k1
     exact⟨rfl,some ⟨b,0,none⟩,c,by rw[hn];exact h2,k4,.inr ⟨b,0,rfl,hb l _ b c hg h1 (.mk k2),cm (fun _ _=>rfl) hG rfl _ _ k7⟩⟩
  ·cases h
 |w l n=>
  simp only[fzC] at h
  split at h
  ·rename_i ty sz els hg
   simp at h;obtain⟨rfl,rfl⟩:=h
   have hn:els.length=n:=he.1
   obtain⟨b,c,h1,h2⟩:=hc
   obtain⟨b',c',arr,k1,k2,k3,k4,k5,k6,k7,k8,_⟩:=hN l _ hg
   rw[h1] at k1;cases k1
   exact⟨rfl,some ⟨b,0,none⟩,c,by rw[hn];exact h2,k4,.inr ⟨b,0,rfl,hb l _ b c hg h1 (.mk k2),cm (fun _ _=>rfl) hG rfl _ _ k7⟩⟩
  ·cases h
 |_=>simp[fzC] at h
theorem JE:∀{cs:List C} {rs:List RC} {e:List (Nat×Nat)} {us:List Value},Na nw cs=some (rs,e)→Eqs e→CV E w cs us→Cl w G base rs us []
 |[],rs,e,us,h,he,hc=>by
  simp[Na] at h;obtain⟨rfl,rfl⟩:=h
  cases us with
  |nil=>rfl
  |cons _ _=>exact hc.elim
 |c::cs,rs,e,us,h,he,hc=>by
  simp only[Na] at h
  split at h
  ·rename_i r e1 rs' e2 h1 h2
   simp at h;obtain⟨rfl,rfl⟩:=h
   obtain⟨g1,g2⟩:=ea he
   cases us with
   |nil=>exact hc.elim
   |cons u us=>exact⟨[],[],rfl,M9 hG hN hb h1 g1 hc.1,JE h2 g2 hc.2⟩
  ·cases h
theorem Ng {v:V} {r:RV} {e:List (Nat×Nat)} {u:Value} (h:fzV nw v=some (r,e)) (he:Eqs e) (hc:cvV E w v u):rvR w G base r u []:=by
 cases v with
 |c c=>
  simp only[fzV] at h
  split at h
  ·rename_i r' e' h1;simp at h;obtain⟨rfl,rfl⟩:=h;exact M9 hG hN hb h1 he hc
  ·cases h
 |agg cs=>
  simp only[fzV] at h
  split at h
  ·rename_i r' e' h1;simp at h;obtain⟨rfl,rfl⟩:=h
   obtain⟨arr,hu,hc⟩:=hc
   exact⟨arr,hu,JE hG hN hb h1 he hc⟩
  ·cases h
theorem JH:∀{cs:List V} {rs:List RV} {e:List (Nat×Nat)} {us:List Value},Ig nw cs=some (rs,e)→Eqs e→VV E w cs us→zk w G base rs us []
 |[],rs,e,us,h,he,hc=>by
  simp[Ig] at h;obtain⟨rfl,rfl⟩:=h
  cases us with
  |nil=>rfl
  |cons _ _=>exact hc.elim
 |c::cs,rs,e,us,h,he,hc=>by
  simp only[Ig] at h
  split at h
  ·rename_i r e1 rs' e2 h1 h2
   simp at h;obtain⟨rfl,rfl⟩:=h
   obtain⟨g1,g2⟩:=ea he
   cases us with
   |nil=>exact hc.elim
   |cons u us=>exact⟨[],[],rfl,Ng hG hN hb h1 g1 hc.1,JH h2 g2 hc.2⟩
  ·cases h
theorem RQ {t:T} {rs:List RV} {e:List (Nat×Nat)} {u:Value} (h:fzT nw t=some (rs,e)) (he:Eqs e) (hc:cvT E w t u):vJ w G base rs u []:=by
 cases t with
 |v v=>
  simp only[fzT] at h
  split at h
  ·rename_i r' e' h1;simp at h;obtain⟨rfl,rfl⟩:=h;exact Ng hG hN hb h1 he hc
  ·cases h
 |any=>cases h
 |tup ts=>
  match ts,h,hc with
  |[],h,_=>cases h
  |[_],h,_=>cases h
  |a::b::vs,h,hc=>
   obtain⟨arr,hu,hc⟩:=hc
   have h:Ig nw (a::b::vs)=some (rs,e):=h
   have key:=JH hG hN hb (base:=base) h he hc
   have hlen:∃x y zs,rs=x::y::zs:=by
    simp only[Ig] at h
    split at h
    ·rename_i r e1 rs' e2 h1 h2
     split at h2
     ·rename_i r' e1' rs'' e2' h1' h2'
      simp at h2 h;obtain⟨rfl,rfl⟩:=h2;obtain⟨rfl,rfl⟩:=h;exact⟨_,_,_,rfl⟩
     ·cases h2
    ·cases h
   obtain⟨x,y,zs,rfl⟩:=hlen
   exact⟨arr,hu,key⟩
end
def Kb:List (Nat×Ob)→Bool
 |[]=>true
 |(l,_)::r=>!rsv l&&Kb r
theorem GK {l:Nat} {y:Ob}:∀{nw:List (Nat×Ob)},Kb nw=true→go nw l=some y→rsv l=false
 |[],_,h=>by cases h
 |(k,z)::r,h0,h=>by
  simp only[Kb,hV,Bool.not_eq_true'] at h0
  by_cases e:k=l
  ·subst e;exact h0.1
  ·rw[bA _ _ e] at h;exact GK h0.2 h
theorem FnV.frzW {P:Program} {f:FuncId} {t t':TypeId} {cs cs':List C} {args:List T} {out:T} {nw:List (Nat×Ob)} {res:List RV} {e:List (Nat×Nat)} (h:FnV P f [(200,.var t cs)] args [(200,.var t' cs')] out nw) (hf:cs'.all C.free=true) (hz:fzT nw out=some (res,e)) (he:Eqs e) (hn:Kb nw=true):
 FnW P f (.var t cs) args (.var t' cs') res:=by
 refine⟨h.enters,fun F w vals b c hF hb hT hs hx hA=>?_⟩
 have hbF:¬F b:=by
  obtain⟨b',c',arr,k1,k2,k3,k4⟩:=hx
  simp[E0] at k1;obtain⟨rfl,rfl⟩:=k1
  exact k4
 have hr0:∀o p,(E0 b c F).r o=some p↔o=200∧p=(b,c):=fun o p=>by
  show(if o=200 then some (b,c) else none)=some p↔_
  split
  ·rename_i h;simp[h,eq_comm]
  ·rename_i h;simp[h]
 have hI:VIn (E0 b c F) w:=⟨hF,fun _ h=>h.elim,fun o b' c' h=>by
  obtain⟨rfl,e⟩:=(hr0 _ _).1 h;cases e;exact⟨hb,rfl,hbF⟩,fun o o' b' c1 c2 h h'=>by rw[((hr0 _ _).1 h).1,((hr0 _ _).1 h').1],fun _ _ h=>h,fun _ h=>h⟩
 refine(h.calls (E0 b c F) w vals hI hT (fun k hk o c' h=>by obtain⟨_,e⟩:=(hr0 _ _).1 h;cases e;exact hs b hk rfl) (fun l x h=>?_) hA).mono ?_
 ·by_cases el:200=l
  ·subst el;rw[cg] at h;cases h;exact hx
  ·rw[bA _ _ el] at h;cases h
 ·rintro en w' ⟨v,E',hen,vo,hv,hys,hnw⟩
  refine⟨v,fun k=>(E'.F k∧w.heap.size≤k)∨(w.heap.size≤k∧k<w'.heap.size∧gA w' k∧∃l y c,go nw l=some y∧E'.r l=some (k,c)),[],hen,⟨vo.past.os,vo.past.tape,vo.past.output,vo.past.size,fun k hk hW=>vo.past.block k hk (fun⟨o,c',ho⟩=>hW (by obtain⟨_,e⟩:=(hr0 _ _).1 ho;cases e;rfl))⟩,fun k hk=>?_,?_,by simp,?_⟩
  ·rcases hk with⟨h1,h2⟩|⟨h1,h2,h3,_⟩
   ·refine⟨h2,vo.fb k h1,?_⟩
    rcases vo.f0 k h1 with h|h
    ·have:=hF k h;omega
    ·exact h.2
   ·exact⟨h1,h2,h3⟩
  ·refine RQ (fun k hk=>.inl ⟨vo.gf k hk,(vo.g0 k hk).resolve_right (fun h=>h.elim)⟩) hnw (fun l y k c' hg hr hp=>?_) hz he hv
   obtain⟨q1,q2⟩:=vo.rb l k c' hr
   exact .inr ⟨q2.resolve_right (fun q=>by rw[GK hn hg] at q;cases q.2),q1,hp,l,y,c',hg,hr⟩
  ·obtain⟨b',c',arr,k1,k2,k3,k4⟩:=hys 200 _ (cg _ _ _)
   have hp:=vo.pin 200 _ rfl k1
   obtain⟨_,ep⟩:=(hr0 _ _).1 hp;cases ep
   refine⟨b,c,arr,by simp[E1],k2,DG (E:=E') (fun g k hk=>?_) (fun _ _ _=>rfl) hf k3,?_⟩
   ·have hFk:∀k,E'.F k→F k∨(E'.F k∧w.heap.size≤k):=fun k hk=>(vo.f0 k hk).imp id (fun h=>⟨hk,h.1⟩)
    cases g with
    |false=>
     show F k∨_
     rcases hFk k hk with h|h
     ·exact .inl h
     ·exact .inr (.inl h)
    |true=>
     exact .inl ⟨vo.gf k hk,(vo.g0 k hk).resolve_right (fun h=>h.elim)⟩
   ·rintro(h1|⟨h1,h2⟩|⟨h1,_⟩)
    ·exact hbF h1
    ·omega
    ·omega
def upC:C→C
 | .d false (.l xs)=>.d true (.l xs)
 |c=>c
def SW:List C→List C
 |[]=>[]
 |c::cs=>upC c::SW cs
def upV:V→V
 | .c c=>.c (upC c)
 | .agg cs=>.agg (SW cs)
def SY:List V→List V
 |[]=>[]
 |c::cs=>upV c::SY cs
def upT:T→T
 | .v v=>.v (upV v)
 | .tup vs=>.tup (SY vs)
 | .any=>.any
section
variable {E E':Env} {w:World} (hr:∀o p,E.r o=some p→E'.r o=some p) (hn:∀o,E'.n o↔E.n o) (hF:∀b,E.F b→E'.F b) (hG:∀b,E.G b→E'.G b) (hFG:∀b,E.F b→E'.G b) (hT:E'.T=E.T) (hZ:E'.Z=E.Z)
include hr hn hF hG hFG hT hZ
theorem O3 {c:C} {u:Value} (h:cvC E w c u):cvC E' w (upC c) u:=by
 have kp:iq E w E' w∨True:=.inr trivial
 cases c with
 |d g x=>
  cases g with
  |false=>
   cases x with
   |l xs=>exact cj (fun _ _=>rfl) hFG _ _ h
   |i k n=>exact cj (fun _ _=>rfl) hF _ _ h
   |b n=>exact cj (fun _ _=>rfl) hF _ _ h
   |str n=>exact cj (fun _ _=>rfl) hF _ _ h
   |k A n c=>exact cj (fun _ _=>rfl) hF _ _ h
  |true=>exact cj (fun _ _=>rfl) hG _ _ h
 |w o n=>obtain⟨b,c,h1,h2⟩:=h;exact⟨b,c,hr _ _ h1,h2⟩
 |s o sz off len=>obtain⟨A,c,b,k,h1,h2⟩:=h;exact⟨A,c,b,k,hr _ _ h1,h2⟩
 |p o k=>obtain⟨b,c,h1,h2⟩:=h;exact⟨b,c,hr _ _ h1,h2⟩
 |e o sz i j=>obtain⟨b,c,h1,h2⟩:=h;exact⟨b,c,hr _ _ h1,h2⟩
 |q g y j=>
  obtain⟨b,k,h1,h2,h3⟩:=h
  cases g with
  |false=>exact⟨b,k,h1,hF b h2,rdL_mono (fun _ _=>rfl) hF _ _ _ h2 h3⟩
  |true=>exact⟨b,k,h1,hG b h2,rdL_mono (fun _ _=>rfl) hG _ _ _ h2 h3⟩
 |fn f=>exact h
 |nil=>exact h
 |any=>trivial
 |r l x=>exact cj (fun _ _=>rfl) (fun b hb=>by rw[hT];exact hb) _ _ h
 |z x=>exact qx (fun _ _=>nW.refl _ _) (fun b hb=>by rw[hZ];exact hb) _ _ h
 |zq y j=>obtain⟨b,k,h1,h2,h3⟩:=h;exact⟨b,k,h1,by rw[hZ];exact h2,rsL_mono (fun _ _=>nW.refl _ _) (fun b hb=>by rw[hZ];exact hb) _ _ _ h2 h3⟩
 |wn o n=>
  rcases h with⟨h1,h2⟩|⟨h1,b,c,h2,h3⟩
  ·exact .inl ⟨(hn o).2 h1,h2⟩
  ·exact .inr ⟨fun k=>h1 ((hn o).1 k),b,c,hr _ _ h2,h3⟩
theorem KI:∀{cs:List C} {us:List Value},CV E w cs us→CV E' w (SW cs) us
 |[],[],_=>trivial
 |c::cs,u::us,h=>⟨O3 hr hn hF hG hFG hT hZ h.1,KI h.2⟩
 |[],_::_,h=>h.elim
 |_::_,[],h=>h.elim
theorem O4 {v:V} {u:Value} (h:cvV E w v u):cvV E' w (upV v) u:=by
 cases v with
 |c c=>exact O3 hr hn hF hG hFG hT hZ h
 |agg cs=>obtain⟨arr,hu,h⟩:=h;exact⟨arr,hu,KI hr hn hF hG hFG hT hZ h⟩
theorem KJ:∀{cs:List V} {us:List Value},VV E w cs us→VV E' w (SY cs) us
 |[],[],_=>trivial
 |c::cs,u::us,h=>⟨O4 hr hn hF hG hFG hT hZ h.1,KJ h.2⟩
 |[],_::_,h=>h.elim
 |_::_,[],h=>h.elim
theorem SX {t:T} {u:Value} (h:cvT E w t u):cvT E' w (upT t) u:=by
 cases t with
 |v v=>exact O4 hr hn hF hG hFG hT hZ h
 |tup vs=>obtain⟨arr,hu,h⟩:=h;exact⟨arr,hu,KJ hr hn hF hG hFG hT hZ h⟩
 |any=>trivial
end
def dnC:C→Option C
 | .d true (.l xs)=>some (.d false (.l xs))
 | .d g (.i k n)=>some (.d g (.i k n))
 | .d g (.b x)=>some (.d g (.b x))
 | .d g (.str s)=>some (.d g (.str s))
 | .nil=>some .nil
 | .fn f=>some (.fn f)
 |_=>none
theorem RE {E E':Env} {w:World} (hG:∀b,E.G b→E'.F b) {c c':C} {u:Value} (h:dnC c=some c') (hc:cvC E w c u):cvC E' w c' u:=by
 cases c with
 |d g x=>
  cases x with
  |l xs=>
   cases g with
   |false=>cases h
   |true=>cases h;exact cj (fun _ _=>rfl) hG _ _ hc
  |i k n=>cases g<;>(cases h;simpa [cvC,rdD] using hc)
  |b n=>cases g<;>(cases h;simpa [cvC,rdD] using hc)
  |str n=>cases g<;>(cases h;simpa [cvC,rdD] using hc)
  |k A n c=>cases g<;>cases h
 |nil=>cases h;exact hc
 |fn f=>cases h;exact hc
 |_=>simp[dnC] at h
theorem Mi {f:C→Option C} {E E':Env} {w w':World} (hf:∀c c' u,f c=some c'→cvC E w c u→cvC E' w' c' u):∀{ts ts':List T} {us:List Value},rY f ts=some ts'→TV E w ts us→TV E' w' ts' us
 |[],ts',us,h,hv=>by
  simp[rY] at h;subst h
  cases us with
  |nil=>trivial
  |cons _ _=>exact hv.elim
 |t::ts,ts',us,h,hv=>by
  simp only[rY] at h
  split at h
  ·rename_i h1 h2
   simp at h;subst h
   cases us with
   |nil=>exact hv.elim
   |cons u us=>exact⟨wP hf h1 hv.1,Mi hf h2 hv.2⟩
  ·cases h
theorem FnV.up {P:Program} {f:FuncId} {args args':List T} {out out':T} {nw:List (Nat×Ob)} (h:FnV P f [] args [] out nw) (ha:rY dnC args'=some args) (ho:upT out=out'):FnV P f [] args' [] out' nw:=by
 subst ho
 refine⟨h.enters,fun E w vals hI ht hs hx hA=>?_⟩
 obtain⟨E0,hE0⟩:∃E0:Env,E0={E with F:=E.G}:=⟨_,rfl⟩
 have e_r:E0.r=E.r:=by subst hE0;rfl
 have e_F:E0.F=E.G:=by subst hE0;rfl
 have e_G:E0.G=E.G:=by subst hE0;rfl
 have e_T:E0.T=E.T:=by subst hE0;rfl
 have e_Z:E0.Z=E.Z:=by subst hE0;rfl
 have hI0:VIn E0 w:=⟨fun b hb=>hI.fb b (hI.gf b (by rw[e_F] at hb;exact hb)),fun b hb=>by rw[e_G] at hb;rw[e_F];exact hb,fun o b c hr=>by
  rw[e_r] at hr
  obtain⟨k1,k2,k3⟩:=hI.rb o b c hr
  exact⟨k1,k2,by rw[e_F];exact fun hg=>k3 (hI.gf b hg)⟩,by rw[e_r];exact hI.inj,by rw[e_T];exact hI.T,by rw[e_Z];exact hI.Z⟩
 refine(h.calls E0 w vals hI0 ht (by rw[e_r];exact hs) (fun l x hg=>by cases hg) (Mi (fun c c' u hc hv=>RE (fun b hb=>by rw[e_F];exact hb) hc hv) ha hA)).mono ?_
 rintro e w' ⟨v,E',he,vo,hv,_,hnw⟩
 have f0:∀b,E'.F b→E.G b∨(w.heap.size≤b∧gA w' b):=fun b hb=>by have:=vo.f0 b hb;rwa [e_F] at this
 have hr0:∀o b c,E'.r o=some (b,c)→b<w'.heap.size∧(w.heap.size≤b∨((∃o' c',E.r o'=some (b,c'))∧rsv o=true)):=fun o b c hr=>by have:=vo.rb o b c hr;rwa [e_r] at this
 refine⟨v,{E' with F:=fun b=>E'.F b∨E.F b,G:=E'.F},he,⟨by have:=vo.past;rwa [e_r] at this,fun b hb=>hb.elim (vo.fb b) (fun hb=>Uc (hI.fb b hb) vo.past.size),fun b hb=>hb.elim (fun hb=>(f0 b hb).imp (hI.gf b) id) .inl,fun b hb=>.inr hb,fun b hb=>vo.F b (by rw[e_F];exact hb),fun b hb=>.inl hb,fun b hb=>(f0 b hb).elim .inr (fun k=>.inl k.1),hr0,vo.inj,fun o x ho hx'=>by have:=vo.pin o x ho hx';rwa [e_r] at this⟩,
  SX (E:=E') (E':={E' with F:=fun b=>E'.F b∨E.F b,G:=E'.F}) (fun _ _ h=>h) (fun _=>Iff.rfl) (fun b hb=>.inl hb) (fun b hb=>vo.gf b hb) (fun b hb=>hb) rfl rfl hv,fun l y hg=>(by cases hg),fun l y hg=>?_⟩
 have hk:iq E' w' {E' with F:=fun b=>E'.F b∨E.F b,G:=E'.F} w':=⟨fun _ _ h=>h,fun g b hb=>by cases g;exact .inl hb;exact vo.gf b hb,fun _ _ _=>rfl,fun _ _ h=>⟨h,rfl⟩,fun _ h=>⟨h,.refl _ _⟩,rfl⟩
 refine fg hk (fun _ _ _=>rfl) (fun b c hr hn hF=>hF.elim hn (fun hb=>?_)) (hnw l y hg)
 rcases(hr0 l b c hr).2 with k|⟨⟨o',c',k⟩,_⟩
 ·have:=hI.fb b hb;omega
 ·exact(hI.rb o' b c' k).2.2 hb
end Go.AM
namespace Go.AM
open Go.RowKit
section
variable {P:Program} {d:Tmp} {ty:TypeId} {ps:String} {af:Array Edge} {gd:Option (Nat×Bool)} {x y:Operand}
theorem Cj {t e sz by_:Nat} {g2:Bool} {o n:Nat} {els:List (List D)} {g m:Bool} {rt:TypeId} {h:Int} {hi:Operand} [ht:TySl P t e sz by_] (hn:els.length=n) (h0:0≤h) (h2:h≤n):
 AWN P ⟨some d,.slice t x none (some hi) none,ty,ps,af,gd⟩ [(x,.v (.c (.w o n))),(hi,.v (.c (.d g2 (.i .i64 h))))] [(o,.row rt sz els g m)] (.v (.c (.w o h.toNat))) []:=
 b7 fun E ac w hne hob=>by
  have k1:=hne x _ (.head _)
  have k3:=gB (hne hi _ (.tail _ (.head _)))
  obtain⟨b,c,hr,hu⟩:=k1
  obtain⟨b',c',arr,hr',_,_,hlc,_⟩:=hob o _ (.head _)
  rw[hr] at hr';cases hr'
  obtain⟨i,z,hi1,hi2,_⟩:=ht.i
  obtain⟨he,hu'⟩:=wv ht.u
  refine⟨sliced (some ⟨b,0,none⟩) 0 h.toNat c sz,?_,?_⟩
  ·simp[execOp,hu,k3,run_sliceAt_slice w t _ _ _ _ hu',run_slice_h w t (some ⟨b,0,none⟩) n c hu' .i64 h h0 (by omega),he,ez hi1,hi2]
  ·exact⟨b,c,hr,by simp[sliced,sH]⟩
theorem Ei {t:TypeId} {e sz by_ o q n:Nat} {els ys:List (List D)} {g gy:Bool} {c:C} {nob:List (Nat×Ob)} [ht:TySl P t e sz by_] (hrv:rsv o=false)
 (ho:go nob o=some (.row e sz els g true)) (hs:Src nob c ys gy) (hn:n≤els.length) (hsz:∀e∈ys,e.length=sz) (hb:(n+ys.length)*by_≤140737488355328) (h63:n+ys.length≤9223372036854775807):
 AWK P ⟨some d,.call ⟨.builtin .append,#[x,y],#[t,t]⟩,ty,ps,af,gd⟩ [(x,.v (.c (.w o n))),(y,.v (.c c))] nob (.v (.c (.w q (n+ys.length)))) [(q,.row e sz (els.take n++ys) (g&&gy) true)] [] (some o):=by
 intro cx E a w ok hne hnob hfr
 have hob:∀l x,go nob l=some x→cy E w l x:=fun l x h=>hnob l x (vu h)
 obtain⟨hq1,hq2⟩:=hfr q _ (.head _)
 have h1:cvT E w (.v (.c (.w o n))) (a.eval x):=hne x _ (.head _)
 have h2:cvT E w (.v (.c c)) (a.eval y):=hne y _ (.tail _ (.head _))
 obtain⟨b,cc,hr,hu⟩:=h1
 obtain⟨b',c',arr,hr',hh,ha,hlc,hmx,hes,hrd,hFm,_⟩:=hob o _ ho
 rw[hr] at hr';cases hr'
 have hF:=hFm rfl
 have hesT:∀e'∈els.take n,e'.length=sz:=fun e' he'=>hes e' (List.mem_of_mem_take he')
 have hrdT:=nR n hrd
 have hnT:(els.take n).length=n:=by simp;omega
 have hoq:o≠q:=fun e=>by rw[e,hq1] at hr;cases hr
 obtain⟨A,k,hv,hyk,hA⟩:=zT hob hs h2
 obtain⟨ii,zz,i1,i2,i3,i4,i5⟩:=ht.i
 have hbl:=(ok.rb o b cc hr)
 have hown:w.ownsRow 0 e sz (.slice (some ⟨b,0,none⟩) n cc) n (arr.toList.take (n*sz)):=
  ⟨by simp[ha];rw[Ul (by omega)],.inr ⟨b,cc,arr,rfl,Ud _,hh,by omega,hmx,ha,rfl⟩⟩
 have hsrc:∃news:List Value,news.length=ys.length*sz∧(∀u∈news,u.oneCell'=true)∧(∀(j:Nat) (xd:D),ys.flatten[j]?=some xd→∃u,news[j]?=some u∧rdD w (E.H gy) xd u)∧
  ∃v' w',(Builtin.append_ #[t,t] ty #[.slice (some ⟨b,0,none⟩) n cc,.slice A ys.length k]).run P w= .ok v' w'∧w'.ownsRow 0 e sz v' (n+ys.length) (arr.toList.take (n*sz)++news)∧w.grownBy w' (some b)∧v'≠.slice none 0 0∧(v'.ownBlock=some b∨v'.ownBlock=some w.heap.size):=by
  have hgood:∀ad,A=some ad→∀news:List Value,news.length=ys.length*sz→(∀(j:Nat) (u:Value),news[j]?=some u→w.cell? (ad.add j)=some u)→(∀u∈news,u.oneCell'=true)→
   ∃v' w',(Builtin.append_ #[t,t] ty #[.slice (some ⟨b,0,none⟩) n cc,.slice A ys.length k]).run P w= .ok v' w'∧w'.ownsRow 0 e sz v' (n+ys.length) (arr.toList.take (n*sz)++news)∧w.grownBy w' (some b)∧v'≠.slice none 0 0∧(v'.ownBlock=some b∨v'.ownBlock=some w.heap.size):=by
   intro ad hAd news n1 n2 n3
   obtain⟨v',w',r1,r2,r3,r4,r5⟩:=run_append_own_at (P:=P) w 0 t ty e ii zz sz by_ ht.u i1 i4 i2 i3 i5 ht.p _ n _ hown ad ys.length k news n1 n2 n3 (by unfold maxLen;omega) hb (Ud _)
   exact⟨v',w',by rw[hAd];exact r1,r2,r3,(fun h=>by have h9:=(r4.1 h).1;simp at h9),r5⟩
  rcases hA with h0|⟨b2,off,rfl,hrd2⟩
  ·subst h0
   refine⟨[],by simp,by simp,by simp,?_⟩
   cases A with
   |none=>exact⟨_,w,oy w ht.u i1 hown k,by simpa using hown,⟨rfl,rfl,rfl,Tt _,fun _ _ _=>rfl⟩,by simp,.inl rfl⟩
   |some ad=>exact hgood ad rfl [] (by simp) (by simp) (by simp)
  ·obtain⟨us,q1,q2,q3,q4⟩:=tp (eX.1 hrd2)
   exact⟨us,by rw[q1,gE hsz],q3,q4,hgood _ rfl us (by rw[q1,gE hsz]) q2 q3⟩
 obtain⟨news,n1,n2,n3,v',w',r1,r2,r3,r4,r5⟩:=hsrc
 obtain⟨_,r2⟩:=r2
 rcases r2 with⟨rfl,_⟩|⟨bn,cap,cur,rfl,_,hhn,hcap,hcapm,hcur,htk⟩
 ·exact absurd rfl r4
 unfold Oper.wp
 simp only[execOp,resolve,invoke,builtin,Sem.run_bind,Sem.run_pure,Result.andThen_ok,List.map_toArray,List.map_cons,List.map_nil,hu,hv,r1,Oper.upon_value]
 have hbn:bn=b∨bn=w.heap.size:=by simpa [Value.ownBlock] using r5
 have hsame:∀k,k<w.heap.size→k≠b→w'.heap[k]?=w.heap[k]?:=fun k hk hne=>r3.block k hk (fun e=>hne (by injection e))
 have hnF:¬E.F bn:=by
  rcases hbn with rfl|rfl
  ·exact hF
  ·exact fun h=>by have:=ok.fb _ h;omega
 have hbig:bn<w'.heap.size:=by
  rcases T9 bn w'.heap.size with h|h
  ·exact h
  ·rw[Ub h] at hhn;cases hhn
 have hnew:∀l bl cl,l≠o→E.r l=some (bl,cl)→bl≠bn:=by
  intro l bl cl hne hl e
  subst e
  rcases hbn with h|h
  ·subst h;exact hne (ok.inj l o _ _ _ hl hr)
  ·have:=(ok.rb l bl cl hl).1;omega
 have hHb:∀g k,E.H g k→k≠b∧k<w.heap.size:=fun g k hk=>⟨fun e=>by subst e;cases g;exact hF hk;exact hF (ok.gf _ hk),ok.hb hk⟩
 have kH:∀(g:Bool) (k:Nat),E.H g k→w'.heap[k]?=w.heap[k]?:=fun g k hk=>hsame k (hHb g k hk).2 (hHb g k hk).1
 have kI:∀(g:Bool) (k:Nat),E.H g k→(E.mv o q bn cap).H g k:=fun _ _ h=>h
 have hbnew:cx.w0.heap.size≤b:=by
  rcases hbl.2 with h|h
  ·exact h
  ·rw[hrv] at h;cases h.2
 have hmv:∀l bl cl,(E.mv o q bn cap).r l=some (bl,cl)→(l=q∧bl=bn∧cl=cap)∨(l≠q∧l≠o∧E.r l=some (bl,cl)):=by
  intro l bl cl hl
  simp only[Env.mv] at hl
  split at hl
  ·cases hl;exact .inl ⟨by assumption,rfl,rfl⟩
  ·split at hl
   ·cases hl
   ·exact .inr ⟨by assumption,by assumption,hl⟩
 refine⟨_,E.mv o q bn cap,rfl,⟨fun k hk=>Uc (ok.fb k hk) r3.size,ok.gf,ok.gn,fun l bl cl hl=>?_,fun l l' bl cl cl' hl hl'=>?_,by rw[r3.os];exact ok.os,by rw[r3.tape];exact ok.tape,by rw[r3.output];exact ok.output,U0 ok.size r3.size,fun k hk hW=>?_,fun l xx hv hl=>?_,ok.ff,fun k hk hk'=>(ok.gc k hk hk').of_eq (hsame k (hHb false k hk).2 (hHb false k hk).1),ok.sf.turn hr rfl rfl (fun _ h=>.inl h) (fun l bl cl hl=>?_) r3.size hsame⟩,
  ⟨fun l xx hl hlr=>?_,fun _ h=>h,fun _ h=>h,fun _ h=>.inl h,fun k hk _ hkl=>hsame k hk (fun e=>hkl o cc rfl (e▸hr)),(fun _ _ _ _ h=>by cases h),fun l bl cl hl hlr=>?_,rfl,rfl,rfl⟩,⟨bn,cap,by simp[Env.mv],rfl⟩,fun l ob hm=>?_,(fun _ _ h=>by cases h),fun l xx hl=>?_⟩
 ·rcases hmv l bl cl hl with⟨_,rfl,rfl⟩|⟨_,_,hl⟩
  ·refine⟨hbig,.inl ?_⟩
   rcases hbn with h|h
   ·rw[h];exact hbnew
   ·rw[h];exact ok.size
  ·have:=ok.rb l bl cl hl;exact⟨Uc this.1 r3.size,this.2⟩
 ·rcases hmv l bl cl hl with⟨h1,h2,h3⟩|⟨h1,h2,h3⟩<;>rcases hmv l' bl cl' hl' with⟨k1,k2,k3⟩|⟨k1,k2,k3⟩
  ·omega
  ·exact absurd h2 (hnew l' _ _ k2 k3)
  ·exact absurd k2 (hnew l _ _ h2 h3)
  ·exact ok.inj l l' bl cl cl' h3 k3
 ·rw[hsame k (by have:=ok.size;omega) (by omega)];exact ok.block k hk hW
 ·obtain⟨bl,cl⟩:=xx
  rcases hmv l bl cl hl with⟨rfl,_⟩|⟨_,_,hl⟩
  ·rw[nu hq2] at hv;cases hv
  ·exact ok.pin l _ hv hl
 ·rcases hmv l bl cl hl with⟨_,rfl,_⟩|⟨_,_,hl⟩
  ·rcases hbn with h|h
   ·left;exact⟨o,_,h▸hr⟩
   ·right;omega
  ·exact .inl ⟨l,cl,hl⟩
 ·simp only[Env.mv]
  rw[if_neg (fun e=>by rw[e,hq1] at hlr;cases hlr),if_neg (fun e=>hl (by rw[e]))]
  exact hlr
 ·cases hl
  rw[hr] at hlr;cases hlr;exact hF
 ·simp at hm;obtain⟨rfl,rfl⟩:=hm
  have hall:∀e'∈els.take n++ys,e'.length=sz:=fun e' he'=>by
   rcases TW.1 he' with h|h
   ·exact hesT e' h
   ·exact hsz e' h
  refine⟨bn,cap,cur,by simp[Env.mv],hhn,hcur,by simp;omega,hcapm,hall,?_,fun _=>hnF,fun h=>by cases h⟩
  rw[eX]
  refine lJ fun j xd hj=>?_
  rw[Tv,et hhn]
  rw[List.flatten_append] at hj
  have hfl:(els.take n).flatten.length=n*sz:=by rw[gE hesT,hnT]
  have hxs:(arr.toList.take (n*sz)).length=n*sz:=by simp[ha];rw[Ul (by omega)]
  have hcurj:∀u,(arr.toList.take (n*sz)++news)[j]?=some u→cur[j]?=some u:=by
   intro u hu
   rw[←htk,TB] at hu
   split at hu
   ·simpa using hu
   ·cases hu
  by_cases hjn:j<n*sz
  ·rw[Tu (by omega)] at hj
   obtain⟨u,u1,u2⟩:=kF (eX.1 hrdT) hj
   rw[Tv,et hh] at u1
   refine⟨u,hcurj u ?_,cj (kH _) (kI _) _ _ (mY ok u2 (by simp;intro a _;exact a))⟩
   rw[Tu (by omega),TB,if_pos hjn]
   simpa using u1
  ·rw[Tz (by omega),hfl] at hj
   obtain⟨u,u1,u2⟩:=n3 _ _ hj
   refine⟨u,hcurj u ?_,cj (kH _) (kI _) _ _ (mY ok u2 (by simp))⟩
   rw[Tz (by omega),hxs]
   exact u1
 ·obtain⟨bl,cl⟩:=xx
  rcases hmv l bl cl hl with⟨rfl,_⟩|⟨_,_,hl⟩
  ·exact .inr ⟨_,.head _⟩
  ·exact .inl hl
end
section
variable {P:Program} {N:Nat} {d:Tmp} {ty:TypeId} {ps:String} {af:Array Edge} {gd:Option (Nat×Bool)} {x y:Operand} {sl:List (Nat×T)} {ob:List (Nat×Ob)} {nx:Nat} {α:Type} {enc:α→List D}
theorem cwfT {t e sz by_:Nat} {g2:Bool} {o n:Nat} {ys:List α} {g m:Bool} {rt:TypeId} {h:Int} {hi:Operand} [ht:TySl P t e sz by_] (H:fL ys 0 h=true) (hn:ys.length=n) (hx:opT sl x= .v (.c (.w o n))) (ho:go ob o=some (.row rt sz (ys.map enc) g m)) (hh:opT sl hi= .v (.c (.d g2 (.i .i64 h)))) (hN:nlt d N=true):
 NS0 P N ⟨some d,.slice t x none (some hi) none,ty,ps,af,gd⟩ sl ob nx d (.v (.c (.w o h.toNat))) ⟨d,[(x,.v (.c (.w o n))),(hi,.v (.c (.d g2 (.i .i64 h))))],[(o,.row rt sz (ys.map enc) g m)],.v (.c (.w o h.toNat)),[]⟩:=by
 simp only[fL,decide_eq_true_eq] at H
 exact db (st:=⟨sl,ob,nx⟩) (Cj (by simpa using hn) H.2.1 (by omega)) rfl hN ⟨hx,hh,trivial⟩ ⟨ho,trivial⟩ rfl
theorem apxP {t:TypeId} {e sz by_ o nx':Nat} {h:Int} {ys zs:List α} {zd:List (List D)} {g gy gg:Bool} {c:C} {nob:List (Nat×Ob)} (ls:List Nat) [TySl P t e sz by_] (H0:fL ys 0 h=true) (H:cM by_ (ys.take h.toNat++zs).length=true) (hzd:zs.map enc=zd) (henc:∀a,(enc a).length=sz)
 (hp:rZ ob ls=some nob) (hs:Src nob c zd gy) (hd:nlt d N=true) (hx:opT sl x= .v (.c (.w o h.toNat))) (hy:opT sl y= .v (.c c)) (ho:go nob o=some (.row e sz (ys.map enc) g true)) (hg:(g&&gy)=gg) (hrv:rsv o=false) (hnx:nxt nx=some nx'):
 NX P N ⟨some d,.call ⟨.builtin .append,#[x,y],#[t,t]⟩,ty,ps,af,gd⟩ ⟨sl,ob,nx⟩ ⟨(d,.v (.c (.w nx (ys.take h.toNat++zs).length)))::sl,(nx,.row e sz ((ys.take h.toNat++zs).map enc) gg true)::ob,nx'⟩
  ⟨⟨d,[(x,.v (.c (.w o h.toNat))),(y,.v (.c c))],nob,.v (.c (.w nx (ys.take h.toNat++zs).length)),[(nx,.row e sz ((ys.take h.toNat++zs).map enc) gg true)]⟩,[],some o⟩:=by
 subst hzd;subst hg
 simp only[fL,decide_eq_true_eq] at H0
 have hle:h.toNat≤ys.length:=by omega
 have hl:(ys.take h.toNat++zs).length=h.toNat+zs.length:=by simp;omega
 simp only[cM,decide_eq_true_eq,hl] at H
 have:=Ei (P:=P) (d:=d) (ty:=ty) (ps:=ps) (af:=af) (gd:=gd) (x:=x) (y:=y) (t:=t) (e:=e) (sz:=sz) (by_:=by_) (q:=nx) (n:=h.toNat) hrv ho hs (by simpa using hle) (Gz henc zs) (by simp only[Us];exact H.1) (by simp only[Us];omega)
 rw[←List.map_take,←List.map_append,Us,←hl] at this
 exact⟨this,.inl ⟨rfl,cK hd⟩,⟨hx,hy,trivial⟩,qs hp,lH hnx,rfl⟩
theorem apxPF {t:TypeId} {e sz by_ o nx':Nat} {h:Int} {ys zs:List α} {zd:List (List D)} {g gy:Bool} {c:C} {nob:List (Nat×Ob)} (ls:List Nat) [TySl P t e sz by_] (H0:fL ys 0 h=true) (H:cM by_ (ys.take h.toNat++zs).length=true) (hzd:zs.map enc=zd) (henc:∀a,(enc a).length=sz) (hfl:∀a,rW (enc a)=true)
 (hp:rZ ob ls=some nob) (hs:Src nob c zd gy) (hd:nlt d N=true) (hx:opT sl x= .v (.c (.w o h.toNat))) (hy:opT sl y= .v (.c c)) (ho:go nob o=some (.row e sz (ys.map enc) g true)) (hrv:rsv o=false) (hnx:nxt nx=some nx'):
 NX P N ⟨some d,.call ⟨.builtin .append,#[x,y],#[t,t]⟩,ty,ps,af,gd⟩ ⟨sl,ob,nx⟩ ⟨(d,.v (.c (.w nx (ys.take h.toNat++zs).length)))::sl,(nx,.row e sz ((ys.take h.toNat++zs).map enc) true true)::ob,nx'⟩
  ⟨⟨d,[(x,.v (.c (.w o h.toNat))),(y,.v (.c c))],nob,.v (.c (.w nx (ys.take h.toNat++zs).length)),[(nx,.row e sz ((ys.take h.toNat++zs).map enc) true true)]⟩,[],some o⟩:=by
 obtain⟨h1,h2,h3,h4,h5,h6⟩:=apxP (P:=P) (N:=N) (t:=t) (x:=x) (y:=y) (enc:=enc) (d:=d) (ty:=ty) (ps:=ps) (af:=af) (gd:=gd) (sl:=sl) (ob:=ob) (nx:=nx) ls H0 H hzd henc hp hs hd hx hy ho rfl hrv hnx
 refine⟨?_,h2,h3,h4,lH hnx,rfl⟩
 intro cx E a w ok hne hnob hfr
 refine Oper.wp_mono ?_ (h1 cx E a w ok hne hnob (fun l x hm=>by simp at hm;obtain⟨rfl,_⟩:=hm;exact hfr _ _ (.head _)))
 rintro a' w' ⟨v,E',k1,k2,k3,k4,k5,k6,k7⟩
 refine⟨v,E',k1,k2,k3,k4,fun l x hm=>?_,k6,fun l x hl=>(k7 l x hl).imp id (fun⟨x',hm⟩=>by simp at hm;obtain⟨rfl,_⟩:=hm;exact⟨_,.head _⟩)⟩
 simp at hm;obtain⟨rfl,rfl⟩:=hm
 obtain⟨b,c,arr,j1,j2,j3,j4,j5,j6,j7,j8,j9⟩:=k5 _ _ (.head _)
 refine⟨b,c,arr,j1,j2,j3,by simpa using j4,j5,by simpa using j6,?_,j8,fun h=>by cases h⟩
 have:rdLL w' (E'.H true) ((ys.take h.toNat++zs).map enc) b 0:=uh (fun e he=>by obtain⟨a,_,rfl⟩:=List.mem_map.1 he;exact hfl a) j7
 simpa using this
end
end Go.AM
namespace Go.AM
def nmO (d:Nat):Operand→Bool
 | .tmp t=>!d0 t d
 |_=>true
def LA (d:Nat):Op→Bool
 | .move x| .assign x| .nilCheck x| .fieldAddr _ x _| .field _ x _| .load _ x| .unOp _ _ x| .convert _ _ x| .extract x _=>nmO d x
 | .store _ x y| .indexAddr _ x y| .index _ x y| .binOp _ _ x y _=>nmO d x&&nmO d y
 | .buildSlice _ _ ps| .build _ ps=>ps.toList.all fun p=>nmO d p.2
 | .call c=>(match c.callee with| .value x=>nmO d x| .builtin _=>true|_=>false)&&c.args.toList.all (nmO d)
 |_=>false
theorem R8 {d:Nat} {ρ ρ':Operand→Value} (hρ:∀x,nmO d x=true→ρ x=ρ' x) {l:Array Operand} (h:l.toList.all (nmO d)=true):l.map ρ=l.map ρ':=by
 apply Vi
 intro x hx
 exact hρ x (TX.1 h x (by simpa using hx))
theorem Qc {α:Type} {d:Nat} {ρ ρ':Operand→Value} (hρ:∀x,nmO d x=true→ρ x=ρ' x) {l:Array (α×Operand)} (h:(l.toList.all fun p=>nmO d p.2)=true):(l.map fun(i,x)=>(i,ρ x))=(l.map fun(i,x)=>(i,ρ' x)):=by
 apply Vi
 rintro⟨i,x⟩ hx
 have:=hρ x (TX.1 h (i,x) (by simpa using hx))
 simp[this]
theorem Qp {d:Nat} {o:Oper} {ρ ρ':Operand→Value} (h:LA d o.op=true) (hρ:∀x,nmO d x=true→ρ x=ρ' x):execOp ρ o=execOp ρ' o:=by
 unfold execOp
 cases e:o.op with
 |move x|assign x|nilCheck x|fieldAddr _ x _|field _ x _|load _ x|unOp _ _ x|convert _ _ x|extract x _=>
  rw[e] at h;simp only[hρ x h]
 |store _ x y|indexAddr _ x y|index _ x y|binOp _ _ x y _=>
  rw[e] at h;simp only[LA,hV] at h;simp only[hρ x h.1,hρ y h.2]
 |buildSlice _ _ ps|build _ ps=>rw[e] at h;simp only[Qc hρ h]
 |call c=>
  rw[e] at h
  simp only[LA,hV] at h
  have h2:=R8 hρ h.2
  have:resolve ρ c o.type=resolve ρ' c o.type:=by
   unfold resolve
   rw[h2]
   cases e2:c.callee with
   |value x=>have h1:=h.1;rw[e2] at h1;simp only[hρ x h1]
   |builtin b=>rfl
   |invoke r n=>have h1:=h.1;rw[e2] at h1;cases h1
  simp only[this]
 |_=>first|rfl|(rw[e] at h;cases h)
section
variable {P:Program} {ops:Array Oper} {Q:Exit→Act→World→Prop}
theorem qv (a:Act) (o:Option Nat) (d:Nat) (u v:Value) (h:o≠some d):(a.put (some d) v).put o u=(a.put o u).put (some d) v:=by
 cases o with
 |none=>rfl
 |some k=>
  have hk:k≠d:=fun e=>h (by rw[e])
  simp only[Act.put]
  congr 1
  exact Vg _ _ (Ne.symm hk)
theorem M3 {a:Act} {d:Nat} {v:Value} {x:Operand} (h:nmO d x=true):(a.put (some d) v).eval x=a.eval x:=by
 cases x with
 |tmp t=>
  have ht:t≠d:=fun e=>by subst e;simp[nmO] at h
  show(a.tmps.setIfInBounds d v).getD t undef=a.tmps.getD t undef
  rw[Uf,Uf,Va (Ne.symm ht)]
 |_=>rfl
theorem Pi {o:Oper} {a:Act} {w:World} {d s:Nat} {v:Value} {K K':Act→World→Prop} (hQ:∀e a w,Q e a w→e= .normal) (h:LA d o.op=true) (hd:o.dst≠some d) (hs:o.dst≠some s)
 (hK:∀a' w',a'.tmps.getD s undef=a.tmps.getD s undef→K (a'.put (some d) v) w'→K' a' w') (hh:o.wp P (a.put (some d) v) w K Q):o.wp P a w K' Q:=by
 have hput:∀(a0:Act) (u:Value),a0.tmps=a.tmps→(a0.put o.dst u).tmps.getD s undef=a.tmps.getD s undef:=fun a0 u h0=>by
  rw[←h0]
  cases e:o.dst with
  |none=>rfl
  |some k=>
   have hk:k≠s:=fun e'=>hs (by rw[e,e'])
   show(a0.tmps.setIfInBounds k u).getD s undef=a0.tmps.getD s undef
   rw[Uf,Uf,Va hk]
 unfold Oper.wp at*
 rw[Qp h (ρ':=a.eval) (fun x hx=>M3 hx)] at hh
 generalize hr:(execOp a.eval o).run P w=r at*
 cases r with
 |ok n w'=>
  cases n with
  |value u=>exact hK _ w' (hput a u rfl) (by rw[←qv a o.dst d u v hd];exact hh)
  |skip=>exact hK _ w' (hput a undef rfl) (by rw[←qv a o.dst d undef v hd];exact hh)
  |defer x=>exact hK _ w' (hput {a with defers:=x::a.defers} undef rfl) (by rw[←qv _ o.dst d undef v hd];exact hh)
  |enter f args=>
   refine Calls.mono hh (fun e w'' he=>?_)
   cases e with
   |returned u=>exact hK _ w'' (hput a u rfl) (by rw[←qv a o.dst d u v hd];exact he)
   |panicked c=>have:=hQ _ _ _ he;cases this
   |outgrown=>exact he
  |row r args=>exact Rows.mono hh (fun u w'' he=>hK _ w'' (hput a u rfl) (by rw[←qv a o.dst d u v hd];exact he))
  |_=>exact hh.elim
 |halt x w'=>
  cases x with
  |panic u=>have:=hQ _ _ _ hh;cases this
  |_=>exact hh.elim
def DL (ops:Array Oper) (i0 d s:Nat):Prop:=∀j o,ops[j]?=some o→j≠i0→(∃e∈o.after,Region.binds .any e=true∧e.on=i0)∨(LA d o.op=true∧o.dst≠some d∧o.dst≠some s∧∀q b,o.guard=some (q,b)→(ops[q]?).bind (·.dst)≠some d)
theorem Ja {o:Oper} {a:Act} {d:Nat} {v:Value} (hg:∀q b,o.guard=some (q,b)→(ops[q]?).bind (·.dst)≠some d):Region.wanted o (yielded ops (a.put (some d) v).tmps)=Region.wanted o (yielded ops a.tmps):=by
 unfold Region.wanted
 cases e:o.guard with
 |none=>rfl
 |some qb=>
  obtain⟨q,b⟩:=qb
  have:=hg q b e
  have hy:yielded ops (a.put (some d) v).tmps q=yielded ops a.tmps q:=by
   unfold yielded
   cases e2:(ops[q]?).bind (·.dst) with
   |none=>rfl
   |some k=>
    have hk:d≠k:=fun e'=>this (by rw[e2,e'])
    show(match(a.tmps.setIfInBounds d v)[k]? with|some (.bool b)=>some b|_=>none)=_
    rw[Va hk]
    rfl
  simp only[hy]
theorem Av {i0 d s:Nat} {o0:Oper} {n:Nat} {listed:Array Bool} {a:Act} {w:World} (hQ:∀e a w,Q e a w→e= .normal) (ho:ops[i0]?=some o0) (hop:o0.op= .move (.tmp s)) (hod:o0.dst=some d) (hog:o0.guard=none) (hoa:o0.after= #[]) (hE:DL ops i0 d s) (hlt:i0<ops.size)
 (hsz:listed.size=ops.size) (hun:listed.getD i0 false=false) (hh:wpAny P .any ops Q n (listed.setIfInBounds i0 true) (a.put (some d) (a.tmps.getD s undef)) w)
 (h:∀i,(i∈Region.ready .any ops listed∧i≠i0∧i∈Region.ready .any ops (listed.setIfInBounds i0 true))→wpOp P ops Q i (wpAny P .any ops Q n (listed.setIfInBounds i true)) a w):wpAny P .any ops Q (n+1) listed a w:=by
 have hr0:i0∈Region.ready .any ops listed:=by
  rw[mem_ready]
  refine⟨?_,o0,ho,fun e he=>by rw[hoa] at he;simp at he⟩
  rw[Uf,TA (by omega)] at hun ⊢
  simpa using hun
 refine⟨fun h0=>(by rw[h0] at hr0;cases hr0),fun i hi=>?_⟩
 by_cases hne:i=i0
 ·subst hne
  unfold wpOp
  simp only[ho]
  rw[if_pos (by simp[Region.wanted,hog])]
  refine .inl ?_
  unfold Oper.wp execOp
  rw[hop]
  show wpAny P .any ops Q n _ (a.put o0.dst (a.tmps.getD s undef)) w
  rw[hod]
  exact hh
 ·refine h i ⟨hi,hne,?_⟩
  obtain⟨h1,h2,o,h3,h4⟩:=jy hsz hi
  rw[mem_ready]
  refine⟨?_,o,h3,fun e he hb=>?_⟩
  ·have:(listed.setIfInBounds i0 true).getD i false=false:=by rw[bX (by omega),if_neg (Ne.symm hne)];exact h2
   rw[Uf,TA (by simp;omega)] at this ⊢
   simpa using this
  ·rw[bX (by omega)]
   split
   ·rfl
   ·exact h4 e he hb
theorem HP {i0 d s:Nat} {o0:Oper} (hQ:∀e a w,Q e a w→e= .normal) (ho:ops[i0]?=some o0) (hop:o0.op= .move (.tmp s)) (hod:o0.dst=some d) (hog:o0.guard=none) (hoa:o0.after= #[]) (hsd:s≠d) (hE:DL ops i0 d s):
 ∀(n:Nat) (listed:Array Bool) (a:Act) (w:World),listed.size=ops.size→listed.getD i0 false=false→wpAny P .any ops Q n (listed.setIfInBounds i0 true) (a.put (some d) (a.tmps.getD s undef)) w→wpAny P .any ops Q (n+1) listed a w:=by
 have hlt:i0<ops.size:=by
  rcases T9 i0 ops.size with h|h
  ·exact h
  ·rw[Ub h] at ho;cases ho
 intro n
 induction n with
 |zero=>
  intro listed a w hsz hun hh
  refine Av hQ ho hop hod hog hoa hE hlt hsz hun hh (fun i hi=>?_)
  have hi2:=hi.2.2;rw[hh.1] at hi2;cases hi2
 |succ n ih=>
  intro listed a w hsz hun hh
  refine Av hQ ho hop hod hog hoa hE hlt hsz hun hh (fun i hi=>?_)
  obtain⟨h1,h2,o,h3,h4⟩:=jy hsz hi.1
  have hne:=hi.2.1
  have hR:=hi.2.2
  have h5:=hh.2 i hR
  rcases hE i o h3 hne with⟨e,he,hb,hon⟩|⟨k1,k2,k3,k4⟩
  ·have:=h4 e he hb;rw[hon,hun] at this;cases this
  have hs2:(listed.setIfInBounds i true).size=ops.size:=by simpa using hsz
  have hun2:(listed.setIfInBounds i true).getD i0 false=false:=by rw[bX (by omega),if_neg hne];exact hun
  have key:∀a' w',a'.tmps.getD s undef=a.tmps.getD s undef→wpAny P .any ops Q n ((listed.setIfInBounds i0 true).setIfInBounds i true) (a'.put (some d) (a.tmps.getD s undef)) w'→wpAny P .any ops Q (n+1) (listed.setIfInBounds i true) a' w':=fun a' w' hs' hk=>by
   refine ih _ a' w' hs2 hun2 ?_
   rw[hs',Vg _ _ hne];exact hk
  unfold wpOp at h5 ⊢
  simp only[h3] at h5 ⊢
  rw[Ja k4] at h5
  split
  ·rename_i hw
   rw[if_pos hw] at h5
   rcases h5 with h5|⟨_,a'',w'',h5⟩
   ·exact .inl (Pi hQ k1 k2 k3 key h5)
   ·have:=hQ _ _ _ h5;cases this
  ·rename_i hw
   rw[if_neg hw] at h5
   rw[qv a o.dst d undef _ k2] at h5
   refine key _ w ?_ h5
   cases e:o.dst with
   |none=>rfl
   |some k=>
    have hk:k≠s:=fun e'=>k3 (by rw[e,e'])
    show(a.tmps.setIfInBounds k undef).getD s undef=a.tmps.getD s undef
    rw[Uf,Uf,Va hk]
theorem HQ {Q':Exit→Act→World→Prop} (hQ:∀e a w,Q e a w→Q' e a w):∀(n:Nat) (listed:Array Bool) (a:Act) (w:World),wpAny P .any ops Q n listed a w→wpAny P .any ops Q' n listed a w:=by
 intro n
 induction n with
 |zero=>exact fun _ _ _ h=>⟨h.1,hQ _ _ _ h.2⟩
 |succ n ih=>
  intro listed a w h
  refine⟨fun h0=>hQ _ _ _ (h.1 h0),fun i hi=>?_⟩
  have h2:=h.2 i hi
  unfold wpOp at h2 ⊢
  split
  ·rename_i e;simp only[e] at h2;exact ih _ _ _ h2
  ·rename_i o e
   simp only[e] at h2
   split
   ·rename_i hw
    rw[if_pos hw] at h2
    rcases h2 with h2|⟨h2,a',w',h3⟩
    ·exact .inl (oV hQ (Oper.wp_mono (fun a w=>ih _ a w) h2))
    ·exact .inr ⟨h2,a',w',hQ _ _ _ h3⟩
   ·rename_i hw
    rw[if_neg hw] at h2
    exact ih _ _ _ h2
end
def Ia (ops:Array Oper) (i0 d s:Nat):Bool:=
 (match ops[i0]? with
  |some ⟨some d',.move (.tmp s'),_,_,af,none⟩=>d0 d' d&&d0 s' s&&af.toList.isEmpty
  |_=>false)&&!d0 s d&&(TU ops.size).all fun j=>d0 j i0||(match ops[j]? with
   |some o=>(o.after.toList.any fun e=>Region.binds .any e&&d0 e.on i0)||(LA d o.op&&(match o.dst with|some k=>!d0 k d&&!d0 k s|none=>true)&&
    (match o.guard with|some (q,_)=>(match(ops[q]?).bind (·.dst) with|some k=>!d0 k d|none=>true)|none=>true))
   |none=>false)
theorem Qo {a b:Nat} (h:(!d0 a b)=true):a≠b:=fun e=>by subst e;simp at h
theorem K6 {ops:Array Oper} {i0 d s:Nat} (h:Ia ops i0 d s=true):(∃o0,ops[i0]?=some o0∧o0.op= .move (.tmp s)∧o0.dst=some d∧o0.guard=none∧o0.after= #[])∧s≠d∧DL ops i0 d s:=by
 simp only[Ia,hV] at h
 obtain⟨⟨h1,h2⟩,h3⟩:=h
 refine⟨?_,Qo h2,fun j o hj hne=>?_⟩
 ·split at h1
  ·rename_i d' s' ty ps af e
   simp only[hV] at h1
   obtain⟨⟨k1,k2⟩,k3⟩:=h1
   have e1:=To k1
   have e2:=To k2
   subst e1;subst e2
   refine⟨_,e,rfl,rfl,rfl,?_⟩
   have:af.toList=[]:=by simpa using k3
   exact Array.toList_eq_nil_iff.1 this
  ·cases h1
 ·have hlt:j<ops.size:=by
   rcases T9 j ops.size with h|h
   ·exact h
   ·rw[Ub h] at hj;cases hj
  have k:=TX.1 h3 j (by simpa using hlt)
  simp only[hj,Bool.or_eq_true,hV] at k
  rcases k with k|k|⟨⟨k1,k2⟩,k3⟩
  ·exact absurd (To k) hne
  ·obtain⟨e,he,hb⟩:=List.any_eq_true.1 k
   simp only[hV] at hb
   exact .inl ⟨e,by simpa using he,hb.1,To hb.2⟩
  ·refine .inr ⟨k1,fun e=>?_,fun e=>?_,fun q b hg e=>?_⟩
   ·rw[e] at k2;simp at k2
   ·rw[e] at k2;simp at k2
   ·simp only[hg,e] at k3;simp at k3
theorem Pv {P:Program} {N id:Nat} {l:List Oper} {sl:List (Nat×T)} {ob:List (Nat×Ob)} {nx:Nat} {AQ:Exit→St→Prop} (i0 d s:Nat) (is:List Nat) {r:List (Nat×Oper)} {t:T} (hm:P.follows .mixedOrders=true) (he:D8 l.toArray=true) (hc:PA l.length (i0::is)=true) (ho:GO l is=some r)
 (hE:Ia l.toArray i0 d s=true) (hd:nlt d N=true) (ht:gt sl s=t) (h:DZ P N l.toArray r [i0] [] [] ⟨(d,t)::sl,ob,nx⟩ ⟨(d,t)::sl,ob,nx⟩ (fun s=>AQ .normal s)):AWC P N (.region id l.toArray true) ⟨sl,ob,nx⟩ AQ:=by
 subst ht
 intro cx E a w hR
 refine wp_region_any hm ?_
 have hR':=w7 hR
 obtain⟨⟨o0,e1,e2,e3,e4,e5⟩,hsd,hE⟩:=K6 hE
 have hlt:i0<l.toArray.size:=by
  rcases T9 i0 l.toArray.size with h|h
  ·exact h
  ·rw[Ub h] at e1;cases e1
 have hdN:d<N:=cK hd
 have hedge:∀i o,l.toArray[i]?=some o→∀e∈o.after,Region.binds .any e=true→e.on<i:=by
  intro i o ho e hm hb
  have hi:i<l.toArray.size:=by
   rcases T9 i l.toArray.size with h|h
   ·exact h
   ·rw[Ub h] at ho;cases ho
  have:=TX.1 he i (by simpa using hi)
  simp only[ho] at this
  have:=TX.1 this e (by simpa using hm)
  simp only[hb,UY,U1] at this
  exact cK this
 have hfull:unl l.toArray (TZ l.toArray.size false)=l.toArray.size:=by
  unfold unl
  rw[Ve.2]
  ·simp
  ·intro i hi;rw[fj];rfl
 have hst:=oT (ops:=l.toArray) (listed:=TZ l.toArray.size false) (i:=i0) (by simp) hlt (fj _ _)
 rw[hfull] at hst
 have hcl:sD l.toArray ((TZ l.toArray.size false).setIfInBounds i0 true):=sM (by simp) hlt e1 (fun e he=>by rw[e5] at he;simp at he) (fun i o ho hd=>by rw[fj] at hd;cases hd)
 have hR2:Rel N cx E ⟨(d,gt sl s)::sl,ob,nx⟩ (a.put (some d) (a.tmps.getD s undef)) {w with drawn:=w.drawn+1}:=by
  refine⟨hR'.ok,hR'.dom,hR'.obs,fun k=>?_,hR'.dfr,by simpa [Act.put] using hR'.size,hR'.td⟩
  rw[fO (by rw[hR'.size];exact hdN)]
  by_cases hk:d=k
  ·subst hk;rw[dL,if_pos rfl];exact hR'.sl s
  ·rw[cR _ _ hk,if_neg hk];exact hR'.sl k
 have key:=MW (P:=P) (cx:=cx) (Q:=fun e a w=>e= .normal∧AO N cx AQ .normal a w) (MX hedge) (fun E st a w hR hK=>⟨rfl,E,st,hR,hK⟩) h rfl (fun q hq=>by have:=(ow ho).1 q hq;simpa using this) (fun j hj=>by
  have hj':j<l.length:=by simpa using hj
  have:=TX.1 hc j (by simpa using hj')
  rcases Tq.1 (fc.1 this) with e|e
  ·subst e;exact .inr (.inl (by simp))
  ·exact .inr (.inr ((ow ho).2 j e))) (fun i o y _ hy=>by simp at hy) (fun k=>rfl) rfl rfl ((TZ l.toArray.size false).setIfInBounds i0 true) _ _ E (by simp) hcl (fun j=>by
   rw[bX (by simpa using hlt)]
   split
   ·rename_i e;subst e;simp[p5]
   ·rename_i e;rw[fj];symm;rw[Bool.eq_false_iff];intro h;have:=fc.1 h;simp at this;exact e this.symm) hR2
 have k2:=HP (fun e a w h=>h.1) e1 e2 e3 e4 e5 hsd hE _ (TZ l.toArray.size false) a {w with drawn:=w.drawn+1} (by simp) (fj _ _) key
 rw[←hst] at k2
 exact HQ (fun e a w h=>by obtain⟨h1,h2⟩:=h;subst h1;exact h2) _ _ _ _ k2
end Go.AM
namespace Go.AM
open Go.RowKit
section
variable {P:Program} {N:Nat} {d:Tmp} {x y:Operand} {ty:TypeId} {ps:String} {af:Array Edge} {gd:Option (Nat×Bool)} {sl:List (Nat×T)} {ob:List (Nat×Ob)} {nx:Nat}
end
end Go.AM
namespace Go.AM
def mH (ops:Array Oper):Array Bool→List Nat→Prop
 |listed,[]=>Region.ready .any ops listed=[]
 |listed,i::L=>i∈Region.ready .any ops listed∧mH ops (listed.setIfInBounds i true) L
section
variable {P:Program} {ops:Array Oper} {Q:Exit→Act→World→Prop}
theorem Lg:∀(fuel t:Nat) (listed:Array Bool),listed.size=ops.size→unl ops listed≤fuel→mH ops listed (Region.linearise.go .any ops fuel t listed []):=by
 intro fuel
 induction fuel with
 |zero=>
  intro t listed hsz hu
  simp only[Region.linearise.go,List.reverse_nil,mH]
  rw[Vd]
  intro i hi
  obtain⟨h1,h2,_⟩:=jy hsz hi
  have:=oT hsz h1 h2
  omega
 |succ fuel ih=>
  intro t listed hsz hu
  simp only[Region.linearise.go]
  change mH ops listed (match(Region.ready .any ops listed)[t%(Region.ready .any ops listed).length]? with
   |some i=>Region.linearise.go .any ops fuel (t/(Region.ready .any ops listed).length) (listed.setIfInBounds i true) [i]
   |none=>[].reverse)
  cases hi:(Region.ready .any ops listed)[t%(Region.ready .any ops listed).length]? with
  |none=>
   have hnil:Region.ready .any ops listed=[]:=by
    cases hr:Region.ready .any ops listed with
    |nil=>rfl
    |cons x xs=>
     rw[hr] at hi
     have hlt:t%(x::xs).length<(x::xs).length:=Nat.mod_lt _ (by simp)
     simp at hi
     simp at hlt
     omega
   exact hnil
  |some i=>
   simp only[]
   rw[linearise_go_acc,List.reverse_singleton,List.singleton_append]
   have hm:=List.mem_of_getElem? hi
   obtain⟨h1,h2,_⟩:=jy hsz hm
   have:=oT hsz h1 h2
   exact⟨hm,ih _ _ (by simpa using hsz) (by omega)⟩
theorem DC:∀(L:List Nat) (listed:Array Bool),listed.size=ops.size→mH ops listed L→L.length≤unl ops listed
 |[],_,_,_=>Ud _
 |i::L,listed,hsz,h=>by
  obtain⟨h1,h2,_⟩:=jy hsz h.1
  have:=oT hsz h1 h2
  have h3:=DC L _ (by simpa using hsz) h.2
  simp only[List.length_cons];omega
theorem DD:∀(L:List Nat) (n:Nat) (listed:Array Bool) (a:Act) (w:World),mH ops listed L→L.length≤n→wpAny P .any ops Q n listed a w→wpOps P ops Q L a w
 |[],0,_,_,_,_,_,h=>h.2
 |[],n+1,_,_,_,hv,_,h=>h.1 hv
 |i::L,0,_,_,_,_,hl,_=>by simp at hl
 |i::L,n+1,listed,a,w,hv,hl,h=>by
  rw[wpOps_cons]
  exact wpOp_mono (fun a w h=>DD L n _ a w hv.2 (by simpa using hl) h) (h.2 i hv.1)
end
def mI:List Oper→Nat→Nat→List Oper
 |[],_,_=>[]
 |⟨d,op,ty,ps,af,gd⟩::r,0,q=>⟨d,op,ty,ps,af.push ⟨q,.data⟩,gd⟩::r
 |o::r,p+1,q=>o::mI r p q
theorem qO:∀{l:List Oper} {p q i:Nat},i≠p→(mI l p q)[i]?=l[i]?
 |[],_,_,_,_=>rfl
 |o::r,0,q,0,h=>absurd rfl h
 |⟨d,op,ty,ps,af,gd⟩::r,0,q,i+1,_=>by simp[mI]
 |o::r,p+1,q,0,_=>by simp[mI]
 |o::r,p+1,q,i+1,h=>by simp only[mI,Vh];exact qO (fun e=>h (by rw[e]))
theorem t9:∀{l:List Oper} {p q:Nat},(mI l p q)[p]?=(l[p]?).map fun o=>{o with after:=o.after.push ⟨q,.data⟩}
 |[],_,_=>rfl
 |⟨d,op,ty,ps,af,gd⟩::r,0,q=>by simp[mI]
 |o::r,p+1,q=>by simp only[mI,Vh];exact t9
theorem z0:∀{l:List Oper} {p q:Nat},(mI l p q).length=l.length
 |[],_,_=>rfl
 |⟨d,op,ty,ps,af,gd⟩::r,0,q=>by simp[mI]
 |o::r,p+1,q=>by simp[mI,z0]
theorem ka {l:List Oper} {p q:Nat} {listed:Array Bool} {i:Nat}:i∈Region.ready .any (mI l p q).toArray listed↔i∈Region.ready .any l.toArray listed∧(i=p→listed.getD q false=true):=by
 rw[mem_ready,mem_ready]
 simp only[Vb]
 by_cases h:i=p
 ·subst h
  rw[t9]
  constructor
  ·rintro⟨h1,o,ho,hd⟩
   rw[Option.map_eq_some_iff] at ho
   obtain⟨o',ho',rfl⟩:=ho
   exact⟨⟨h1,o',ho',fun e he hb=>hd e (by simp[he]) hb⟩,fun _=>hd ⟨q,.data⟩ (by simp) rfl⟩
  ·rintro⟨⟨h1,o,ho,hd⟩,h2⟩
   refine⟨h1,_,by rw[ho];rfl,fun e he hb=>?_⟩
   rcases Array.mem_push.1 he with he|he
   ·exact hd e he hb
   ·subst he;exact h2 rfl
 ·rw[qO h]
  exact⟨fun k=>⟨k,fun e=>absurd e h⟩,fun k=>k.1⟩
theorem BV {l:List Oper} {p q:Nat}:∀(L:List Nat) (listed:Array Bool),listed.size=l.toArray.size→listed.getD q false=true→mH l.toArray listed L→mH (mI l p q).toArray listed L
 |[],listed,_,hq,h=>by
  show Region.ready .any (mI l p q).toArray listed=[]
  rw[Vd]
  intro i hi
  have:=(ka.1 hi).1
  have h':Region.ready .any l.toArray listed=[]:=h
  rw[h'] at this;cases this
 |i::L,listed,hsz,hq,h=>by
  refine⟨ka.2 ⟨h.1,fun _=>hq⟩,BV L _ (by simpa using hsz) ?_ h.2⟩
  obtain⟨h1,_⟩:=jy hsz h.1
  rw[bX (by omega)]
  split
  ·rfl
  ·exact hq
theorem y7 {l:List Oper} {p q:Nat} (hpq:p≠q):∀(L:List Nat) (listed:Array Bool),listed.size=l.toArray.size→listed.getD p false=false→listed.getD q false=false→mH l.toArray listed L→mH (mI l p q).toArray listed L∨mH (mI l q p).toArray listed L
 |[],listed,_,_,_,h=>by
  left
  show Region.ready .any (mI l p q).toArray listed=[]
  rw[Vd]
  intro i hi
  have:=(ka.1 hi).1
  have h':Region.ready .any l.toArray listed=[]:=h
  rw[h'] at this;cases this
 |i::L,listed,hsz,hp,hq,h=>by
  have hs2:(listed.setIfInBounds i true).size=l.toArray.size:=by simpa using hsz
  obtain⟨h1,_⟩:=jy hsz h.1
  have hg:∀j,(listed.setIfInBounds i true).getD j false=if i=j then true else listed.getD j false:=fun j=>bX (by omega)
  by_cases e1:i=q
  ·left
   exact⟨ka.2 ⟨h.1,fun e=>absurd (e.symm.trans e1) hpq⟩,BV L _ hs2 (by rw[hg,if_pos e1]) h.2⟩
  ·by_cases e2:i=p
   ·right
    exact⟨ka.2 ⟨h.1,fun e=>absurd e e1⟩,BV L _ hs2 (by rw[hg,if_pos e2]) h.2⟩
   ·rcases y7 hpq L _ hs2 (by rw[hg,if_neg e2];exact hp) (by rw[hg,if_neg e1];exact hq) h.2 with k|k
    ·exact .inl ⟨ka.2 ⟨h.1,fun e=>absurd e e2⟩,k⟩
    ·exact .inr ⟨ka.2 ⟨h.1,fun e=>absurd e e1⟩,k⟩
section
variable {P:Program} {Q:Exit→Act→World→Prop}
theorem Ft {l:List Oper} {p q:Nat} (ts:Array Value) (j:Nat):yielded (mI l p q).toArray ts j=yielded l.toArray ts j:=by
 unfold yielded
 have:(((mI l p q).toArray)[j]?).bind (·.dst)=((l.toArray)[j]?).bind (·.dst):=by
  simp only[Vb]
  by_cases h:j=p
  ·subst h;rw[t9];cases l[j]?<;>rfl
  ·rw[qO h]
 rw[this]
theorem wb {l:List Oper} {p q:Nat}:∀(L:List Nat) (a:Act) (w:World),wpOps P (mI l p q).toArray Q L a w→wpOps P l.toArray Q L a w
 |[],_,_,h=>h
 |i::L,a,w,h=>by
  rw[wpOps_cons] at h ⊢
  have h':=wpOp_mono (fun a w=>wb L a w) h
  unfold wpOp at h' ⊢
  have hy:yielded (mI l p q).toArray a.tmps=yielded l.toArray a.tmps:=funext (Ft a.tmps)
  rw[hy] at h'
  simp only[Vb] at h' ⊢
  by_cases e:i=p
  ·subst e
   rw[t9] at h'
   cases e2:l[i]? with
   |none=>rw[e2] at h';exact h'
   |some o=>rw[e2] at h';exact h'
  ·rw[qO e] at h';exact h'
end
def rkO:List Nat→Nat→Nat
 |[],_=>0
 |i::is,k=>bif d0 i k then 0 else rkO is k+1
def MY (ops:Array Oper) (is:List Nat):Bool:=
 (TU ops.size).all fun i=>match ops[i]? with
  |some o=>o.after.toList.all fun e=>!Region.binds .any e||(nlt e.on ops.size&&nlt (rkO is e.on) (rkO is i))
  |none=>false
theorem K7 {ops:Array Oper} {is:List Nat} (h:MY ops is=true):Edg ops (rkO is):=by
 intro i o ho e he hb
 have hi:i<ops.size:=by
  rcases T9 i ops.size with h|h
  ·exact h
  ·rw[Ub h] at ho;cases ho
 have:=TX.1 h i (by simpa using hi)
 simp only[ho] at this
 have:=TX.1 this e (by simpa using he)
 simp only[hb,UY,U1,hV] at this
 exact⟨cK this.1,cK this.2⟩
def AWA (P:Program) (N:Nat) (l:List Oper) (st:St) (K:St→Prop):Prop:=
 ∀cx E a w,Rel N cx E st a w→∀L,mH l.toArray (TZ l.toArray.size false) L→wpOps P l.toArray (AO N cx (onN K)) L a {w with drawn:=w.drawn+1}
theorem KV {P:Program} {N:Nat} {l:List Oper} {st:St} {K:St→Prop} (p q:Nat) (hpq:d0 p q=false) (h1:AWA P N (mI l p q) st K) (h2:AWA P N (mI l q p) st K):AWA P N l st K:=by
 intro cx E a w hR L hv
 have e1:(mI l p q).toArray.size=l.toArray.size:=by simp[z0]
 have e2:(mI l q p).toArray.size=l.toArray.size:=by simp[z0]
 have hne:p≠q:=fun e=>by rw[e] at hpq;simp at hpq
 rcases y7 hne L _ (by simp) (fj _ _) (fj _ _) hv with k|k
 ·rw[←e1] at k;exact wb L _ _ (h1 cx E a w hR L k)
 ·rw[←e2] at k;exact wb L _ _ (h2 cx E a w hR L k)
theorem Mt {P:Program} {N:Nat} {l:List Oper} {st:St} {K:St→Prop} (is:List Nat) {r:List (Nat×Oper)} (he:MY l.toArray is=true) (hc:PA l.length is=true) (ho:GO l is=some r)
 (h:DZ P N l.toArray r [] [] [] st st K):AWA P N l st K:=by
 intro cx E a w hR L hv
 have hR':=w7 hR
 have hedge:=K7 he
 have hfull:unl l.toArray (TZ l.toArray.size false)=l.toArray.size:=by
  unfold unl
  rw[Ve.2]
  ·simp
  ·intro i hi;rw[fj];rfl
 have:=MW (P:=P) (cx:=cx) (Q:=AO N cx (onN K)) hedge (fun E st a w hR hK=>⟨E,st,hR,hK⟩) h rfl (fun q hq=>by have:=(ow ho).1 q hq;simpa using this) (fun j hj=>by
  have hj':j<l.length:=by simpa using hj
  have:=TX.1 hc j (by simpa using hj')
  exact .inr (.inr ((ow ho).2 j (fc.1 this)))) (fun i o y _ hy=>by simp at hy) (fun k=>rfl) rfl rfl (TZ l.toArray.size false) a _ E (by simp) (fun i o ho hd=>by rw[fj] at hd;cases hd) (fun j=>by rw[fj];simp[p5]) hR'
 exact DD L _ _ _ _ hv (DC L _ (by simp) hv) this
theorem Pu {P:Program} {N id:Nat} {l:List Oper} {st:St} {AQ:Exit→St→Prop} (M:St) [c:Clo N AQ] (hm:P.follows .mixedOrders=true) (h:AWA P N l st (fun s=>cZ N s M)) (h2:AQ .normal M):AWC P N (.region id l.toArray true) st AQ:=by
 refine wg (AQ:=onN fun s=>cZ N s M) ?_ (fun e s h=>by
  cases e<;>first|exact c.h _ _ _ h h2|exact h.elim)
 intro cx E a w hR
 exact wp_region_draw fun t=>by
  simp only[Region.schedule,hm,Bool.true_or,if_true]
  exact h cx E a w hR _ (Lg _ _ _ (by simp) (by
   unfold unl
   refine U0 (List.length_filter_le _ _) ?_
   simp))
end Go.AM
namespace Go.AM
open Go.RowKit
def cpD {α:Type} (els:List α) (off:Nat) (ys:List α):List α:=els.take off++cpL (els.drop off) ys
@[simp] theorem cpD_len {α:Type} (els ys:List α) (off:Nat):(cpD els off ys).length=els.length:=by simp[cpD];omega
section
variable {P:Program} {N:Nat} {d:Tmp} {ty:TypeId} {ps:String} {af:Array Edge} {gd:Option (Nat×Bool)} {x y z:Operand} {st:St}
end
end Go.AM
namespace Go.AM
theorem wkz {G R:Prop} (hr:R) (h:R→G:=by intro h;(repeat' (first|refine D0 ?_|refine n0 ?_|refine zw ?_|refine qP ?_|refine pU rfl ?_|refine nZ rfl ?_|refine DX ?_|refine Aa ?_|refine tn ?_|refine tr ?_|refine xM ?_|refine z8 ?_|refine te ?_|refine bx rfl ?_|refine bo rfl ?_|refine bn ?_|refine br ?_|refine H8 (by kernel_rfl) rfl ?_|((first|apply rU rfl|apply DY rfl rfl rfl rfl|apply iA rfl|apply MV rfl rfl rfl rfl); · first|exact op rfl rfl rfl rfl|exact opa rfl rfl rfl rfl|exact oq rfl rfl rfl|exact oqa rfl rfl rfl|exact fp rfl rfl rfl|exact fq rfl rfl rfl|exact fe rfl rfl rfl|exact io rfl rfl rfl rfl|exact se rfl rfl rfl|exact bq rfl rfl rfl|exact qe rfl rfl rfl rfl rfl rfl rfl|exact sn rfl rfl rfl|exact bne rfl rfl rfl|exact qn rfl rfl rfl rfl rfl rfl rfl|exact mv1 rfl rfl|exact mv2 rfl rfl|exact mv3 rfl rfl|exact as1 rfl rfl|exact as2 rfl rfl|exact as3 rfl rfl|exact ldT rfl rfl|exact ld rfl rfl|exact lw rfl rfl|exact lwn rfl rfl|exact ls rfl rfl|exact ln rfl rfl|exact R6 rfl rfl|exact lz rfl rfl|exact fz rfl rfl rfl|exact oz rfl rfl rfl|exact oza rfl rfl rfl|exact un rfl rfl|exact ng rfl rfl|exact ba rfl rfl rfl|exact bc rfl rfl rfl rfl|exact al rfl rfl|exact pk1 rfl rfl rfl|exact pk0 rfl rfl rfl|exact ex rfl rfl rfl|exact nc rfl rfl|exact fv rfl rfl rfl|exact fva rfl rfl rfl|exact bd rfl rfl rfl|exact bs rfl rfl rfl rfl rfl rfl rfl rfl|exact cv rfl rfl|exact bt1 rfl rfl|exact ib rfl rfl rfl rfl)|(apply eS rfl; · first|exact sp rfl rfl rfl rfl rfl rfl rfl|exact stz rfl rfl rfl rfl)|refine gs rfl rfl rfl rfl rfl rfl ?_|refine zgs rfl rfl rfl rfl rfl rfl rfl ?_|fail));exact h):G:=h hr
theorem wkb {G R:Prop} (hr:R) (h:R→G:=by intro h;(repeat' (first|refine D0 ?_|refine n0 ?_|refine zw ?_|refine qP ?_|refine pU rfl ?_|refine nZ rfl ?_|refine DX ?_|refine Aa ?_|refine tn ?_|refine tr ?_|refine xM ?_|refine z8 ?_|refine te ?_|refine bx rfl ?_|refine bo rfl ?_|refine bn ?_|refine br ?_|refine H8 (by kernel_rfl) rfl ?_|((first|apply rU rfl|apply DY rfl rfl rfl rfl|apply iA rfl|apply MV rfl rfl rfl rfl); · first|exact op rfl rfl rfl rfl|exact opa rfl rfl rfl rfl|exact oq rfl rfl rfl|exact oqa rfl rfl rfl|exact fp rfl rfl rfl|exact fq rfl rfl rfl|exact fe rfl rfl rfl|exact io rfl rfl rfl rfl|exact se rfl rfl rfl|exact bq rfl rfl rfl|exact qe rfl rfl rfl rfl rfl rfl rfl|exact sn rfl rfl rfl|exact bne rfl rfl rfl|exact qn rfl rfl rfl rfl rfl rfl rfl|exact mv1 rfl rfl|exact mv2 rfl rfl|exact mv3 rfl rfl|exact as1 rfl rfl|exact as2 rfl rfl|exact as3 rfl rfl|exact ldT rfl rfl|exact ld rfl rfl|exact lw rfl rfl|exact lwn rfl rfl|exact ls rfl rfl|exact ln rfl rfl|exact R6 rfl rfl|exact lz rfl rfl|exact fz rfl rfl rfl|exact oz rfl rfl rfl|exact oza rfl rfl rfl|exact un rfl rfl|exact ng rfl rfl|exact ba rfl rfl rfl|exact bc rfl rfl rfl rfl|exact al rfl rfl|exact pk1 rfl rfl rfl|exact pk0 rfl rfl rfl|exact ex rfl rfl rfl|exact nc rfl rfl|exact fv rfl rfl rfl|exact fva rfl rfl rfl|exact bd rfl rfl rfl|exact cv rfl rfl|exact bt1 rfl rfl|exact ib rfl rfl rfl rfl)|(apply eS rfl; · first|exact sp rfl rfl rfl rfl rfl rfl rfl|exact stz rfl rfl rfl rfl)|refine gs rfl rfl rfl rfl rfl rfl ?_|refine zgs rfl rfl rfl rfl rfl rfl rfl ?_|fail));exact h):G:=h hr
end Go.AM
namespace Go.AM
inductive F where
 |s (d:D)
 |l (t z:Nat) (e:List (List D)) (n:Nat)
inductive LM where
 |t
 |f
 |z
 |w (o:Nat)
 |n (o:Nat)
def LM.c:LM→List (List D)→Nat→C
 | .t,e,_=>.d true (.l e)
 | .f,e,_=>.d false (.l e)
 | .z,_,_=>.nil
 | .w o,_,k=>.w o k
 | .n o,_,k=>.wn o k
def kM:List LM→List F→List C
 |ms,.s d::r=>.d false d::kM ms r
 |m::ms,.l _ _ e n::r=>m.c e n::kM ms r
 |_,_=>[]
def LM.o:LM→Nat→Nat→List (List D)→List (Nat×Ob)→List (Nat×Ob)
 | .w o,a,b,e,r=>(o,.row a b e true true)::r
 | .n o,a,b,e,r=>(o,.rown a b e true)::r
 |_,_,_,_,r=>r
def rM:List LM→List F→List (Nat×Ob)→List (Nat×Ob)
 |ms,.s _::r,q=>rM ms r q
 |m::ms,.l t z e _::r,q=>m.o t z e (rM ms r q)
 |_,_,q=>q
def oM (ms:List LM) (o ty:Nat) (x:List F):List (Nat×Ob):=rM ms x [(o,.var ty (kM ms x))]
inductive RM where
 |d
 |o
 |z
def RM.c:RM→Nat→Nat→List (List D)→Nat→RC
 | .d,_,_,e,_=>.d (.l e)
 | .o,a,b,e,n=>.own a b e n
 | .z,_,_,_,_=>.nil
def qM:List RM→List F→List RC
 |ms,.s d::r=>.d d::qM ms r
 |m::ms,.l t z e n::r=>m.c t z e n::qM ms r
 |_,_=>[]
abbrev tP (o:Nat):T:=.v (.c (.p o 0))
def m0:List (Nat×Nat):=[(190,190),(191,191),(192,192),(193,193),(200,200)]
theorem wJ {G R:Prop} (h:R→G:=by(intro h;(repeat' (first|refine D0 ?_|refine n0 ?_|refine zw ?_|refine qP ?_|refine pU rfl ?_|refine nZ rfl ?_|refine DX ?_|refine Aa ?_|refine tn ?_|refine tr ?_|refine xM ?_|refine z8 ?_|refine te ?_|refine bx rfl ?_|refine bo rfl ?_|refine bn ?_|refine br ?_|refine H8 (by kernel_rfl) rfl ?_|refine RG ⟨by kernel_rfl,?_⟩|((first|apply rU rfl|apply DY rfl rfl rfl rfl|apply iA rfl|apply MV rfl rfl rfl rfl|apply dr_n rfl|apply Q8 rfl rfl rfl rfl); · first|exact op rfl rfl rfl rfl|exact opa rfl rfl rfl rfl|exact oq rfl rfl rfl|exact oqa rfl rfl rfl|exact fp rfl rfl rfl|exact fq rfl rfl rfl|exact fe rfl rfl rfl|exact io rfl rfl rfl rfl|exact se rfl rfl rfl|exact bq rfl rfl rfl|exact qe rfl rfl rfl rfl rfl rfl rfl|exact sn rfl rfl rfl|exact bne rfl rfl rfl|exact qn rfl rfl rfl rfl rfl rfl rfl|exact mv1 rfl rfl|exact mv2 rfl rfl|exact mv3 rfl rfl|exact as1 rfl rfl|exact as2 rfl rfl|exact as3 rfl rfl|exact ldT rfl rfl|exact ld rfl rfl|exact lw rfl rfl|exact lwn rfl rfl|exact ls rfl rfl|exact ln rfl rfl|exact R6 rfl rfl|exact lz rfl rfl|exact fz rfl rfl rfl|exact oz rfl rfl rfl|exact oza rfl rfl rfl|exact un rfl rfl|exact ng rfl rfl|exact ba rfl rfl rfl|exact bc rfl rfl rfl rfl|exact al rfl rfl|exact pk1 rfl rfl rfl|exact pk0 rfl rfl rfl|exact ex rfl rfl rfl|exact nc rfl rfl|exact fv rfl rfl rfl|exact fva rfl rfl rfl|exact bd rfl rfl rfl|exact bs rfl rfl rfl rfl rfl rfl rfl rfl|exact cv rfl rfl|exact bt1 rfl rfl|exact ib rfl rfl rfl rfl)|(apply eS rfl; · first|exact sp rfl rfl rfl rfl rfl rfl rfl|exact stz rfl rfl rfl rfl)|refine gs rfl rfl rfl rfl rfl rfl ?_|refine zgs rfl rfl rfl rfl rfl rfl rfl ?_|refine dgs rfl rfl rfl rfl rfl rfl rfl ?_|fail));exact h)):R→G:=h
theorem wI {G R:Prop} (hr:R) (h:R→G:=by exact wJ):G:=h hr
theorem wo {N:Nat} {st st':St} (h1:LeS st.sl st'.nx st'.sl:=by repeat (first|exact trivial|refine⟨rfl,rfl,?_⟩|refine⟨wn rfl (by first|rfl|simp),rfl,?_⟩|refine⟨wnn rfl (by first|rfl|simp),rfl,?_⟩)) (h2:LeO st.ob st'.nx st'.ob:=by repeat (first|exact trivial|refine⟨rfl,⟨rfl,rfl⟩,?_⟩)):cZ N st st':=d9 h1 h2
section
variable {P:Program} {N:Nat} {st st':St} {AQ:Exit→St→Prop} {ops:Array Oper} {l:List Oper} {o:Oper} {x:Inf} {K:St→Prop} {R:Prop}
theorem nA (h:NS P N o st st' x) (hr:R) (hg:o.guard=none:=by exact rfl) (w:R→AWR P N ops l st' K:=by exact wJ):AWR P N ops (o::l) st K:=rU hg h (w hr)
theorem nG {j:Nat} {dj:Tmp} {b:Bool} (h:NS P N o st st' x) (hr:R) (hg:o.guard=some (j,b):=by exact rfl) (hj:(ops[j]?).bind (·.dst)=some dj:=by exact rfl) (hdj:nlt dj N=true:=by exact rfl) (hb:gt st.sl dj=tB b:=by exact rfl) (w:R→AWR P N ops l st' K:=by exact wJ):AWR P N ops (o::l) st K:=DY hg hj hdj hb h (w hr)
theorem sA (h:AWO P N o st st') (hr:R) (hg:o.guard=none:=by exact rfl) (w:R→AWR P N ops l st' K:=by exact wJ):AWR P N ops (o::l) st K:=eS hg h (w hr)
theorem sG {j:Nat} {dj:Tmp} {b:Bool} (h:AWO P N o st st') (hr:R) (hg:o.guard=some (j,b):=by exact rfl) (hj:(ops[j]?).bind (·.dst)=some dj:=by exact rfl) (hdj:nlt dj N=true:=by exact rfl) (hb:gt st.sl dj=tB b:=by exact rfl) (w:R→AWR P N ops l st' K:=by exact wJ):AWR P N ops (o::l) st K:=js hg hj (cK hdj) hb h (w hr)
theorem cC {α:Type} {c:Operand} {X Y:Code} {b:Bool} {p q r:Option α} {R1 R0:Prop} (H:(bif b then p else q)=r) (h1:p=r→R1) (h0:q=r→R0) (hb:opT st.sl c=tB b:=by exact rfl) (w1:R1→AWC P N X st AQ:=by exact wJ) (w0:R0→AWC P N Y st AQ:=by exact wJ):AWC P N (.cond c X Y) st AQ:=
 mf hb (fun h=>w1 (h1 (bt h H))) (fun h=>w0 (h0 (bf h H)))
theorem jA {X:Code} {R1 R2:Prop} (M:St) [c:Clo N AQ] (h1:R1) (h2:R2) (w1:R1→AWC P N X st (sr (fun s=>cZ N s M) AQ):=by exact wJ) (w2:R2→AQ .normal M:=by exact wJ):AWC P N X st AQ:=sL M (w1 h1) (w2 h2)
theorem jB {X:Code} {id:Nat} {R1 R2:Prop} (M:St) [c:Clo N AQ] (h1:R1) (h2:R2) (w1:R1→AWC P N X st (jm id (sr (fun s=>cZ N s M) AQ)):=by exact wJ) (w2:R2→AQ .normal M:=by exact wJ):AWC P N X st (jm id AQ):=qf M (w1 h1) (w2 h2)
theorem jR {R1 R2:Prop} (M:St) [c:CloK N K] (h1:R1) (h2:R2) (w1:R1→AWR P N ops l st (fun s=>cZ N s M):=by exact wJ) (w2:R2→K M:=by exact wJ):AWR P N ops l st K:=FF M (w1 h1) (w2 h2)
theorem zI (is:List Nat) {ll:List Oper} {id:Nat} {r:List (Nat×Oper)} (hr:R) (hm:P.follows .mixedOrders=true:=by exact Try.follows) (he:D8 ll.toArray=true:=by kernel_rfl) (hc:PA ll.length is=true:=by kernel_rfl) (ho:GO ll is=some r:=by exact rfl) (w:R→DZ P N ll.toArray r [] [] [] st st (fun s=>AQ .normal s):=by exact wJ):AWC P N (.region id ll.toArray true) st AQ:=pV is hm he hc ho (w hr)
theorem dI {ll:List Oper} {id:Nat} (hr:R) (hm:P.follows .mixedOrders=true:=by exact Try.follows) (hol:NY st.nx st.ob=true:=by exact rfl) (w:R→DR P N ll.toArray ll [] st (fun is t=>Ar ll.toArray is st.nx=true∧AQ .normal t):=by exact wJ):AWC P N (.region id ll.toArray true) st AQ:=Mu hm hol (w hr)
section
variable {KK:List Inf→St→Prop} {is:List Inf}
theorem dA (h:NS P N o st st' x) (hr:R) (hg:o.guard=none:=by exact rfl) (w:R→DR P N ops l (is++[x]) st' KK:=by exact wJ):DR P N ops (o::l) is st KK:=dr_n hg h (w hr)
theorem dG {j:Nat} {dj:Tmp} {b:Bool} (h:NS P N o st st' x) (hr:R) (hg:o.guard=some (j,b):=by exact rfl) (hj:(ops[j]?).bind (·.dst)=some dj:=by exact rfl) (hdj:nlt dj N=true:=by exact rfl) (hb:gt st.sl dj=tB b:=by exact rfl) (w:R→DR P N ops l (is++[{x with needs:=(.tmp dj,tB b)::x.needs}]) st' KK:=by exact wJ):DR P N ops (o::l) is st KK:=Q8 hg hj hdj hb h (w hr)
end
section
variable {α:Type} {p q r:Option α} {R1 R0:Prop} {j:Nat} {dj:Tmp} {b c:Bool} {sl:List (Nat×T)} {ob:List (Nat×Ob)} {nx:Nat}
theorem gC (H:(bif c then p else q)=r) (h1:p=r→R1) (h0:q=r→R0) (hg:o.guard=some (j,b):=by exact rfl) (hj:(ops[j]?).bind (·.dst)=some dj:=by exact rfl) (hb:gt sl dj=tB c:=by exact rfl)
 (w1:R1→AWR P N ops (o::l) ⟨(dj,tB true)::sl,ob,nx⟩ K:=by exact wJ) (w0:R0→AWR P N ops (o::l) ⟨(dj,tB false)::sl,ob,nx⟩ K:=by exact wJ):AWR P N ops (o::l) ⟨sl,ob,nx⟩ K:=
 g2 hg hj hb (fun h=>w1 (h1 (bt h H))) (fun h=>w0 (h0 (bf h H)))
theorem dC {is:List Inf} {KK:List Inf→St→Prop} (H:(bif c then p else q)=r) (h1:p=r→R1) (h0:q=r→R0) (hg:o.guard=some (j,b):=by exact rfl) (hj:(ops[j]?).bind (·.dst)=some dj:=by exact rfl) (hb:gt sl dj=tB c:=by exact rfl)
 (w1:R1→DR P N ops (o::l) is ⟨(dj,tB true)::sl,ob,nx⟩ KK:=by exact wJ) (w0:R0→DR P N ops (o::l) is ⟨(dj,tB false)::sl,ob,nx⟩ KK:=by exact wJ):DR P N ops (o::l) is ⟨sl,ob,nx⟩ KK:=
 dg2 hg hj hb (fun h=>w1 (h1 (bt h H))) (fun h=>w0 (h0 (bf h H)))
end
section
variable {lz:List (Nat×Oper)} {dn seg:List Nat} {ys:List Inx} {base:St} {p:Nat} {y:Inx}
theorem zA (h:NS P N o st st' x) (hr:R) (hg:o.guard=none:=by exact rfl) (w:R→DZ P N ops lz dn (seg++[p]) (ys++[⟨x,[],none⟩]) base st' K:=by exact wJ):DZ P N ops ((p,o)::lz) dn seg ys base st K:=iA hg h (w hr)
theorem wA (h:NX P N o st st' y) (hr:R) (hg:o.guard=none:=by exact rfl) (w:R→DZ P N ops lz dn (seg++[p]) (ys++[y]) base st' K:=by exact wJ):DZ P N ops ((p,o)::lz) dn seg ys base st K:=xS hg h (w hr)
theorem zB {st0 st1 st2:St} {dn':List Nat} (hw:cZ N st st0) (h:BO P N ops o st0 st1) (hw2:cZ N st1 st2) (hr:R) (hs:xl ops dn seg ys=true:=by kernel_rfl) (hkl:kls ys=[]:=by exact rfl) (hb:FH ops (seg++dn) p=true:=by kernel_rfl) (hlo:p::(seg++dn)=dn':=by exact rfl) (w:R→DZ P N ops lz dn' [] [] st2 st2 K:=by exact wJ):DZ P N ops ((p,o)::lz) dn seg ys base st K:=Au hs hkl hb hw h hw2 hlo (w hr)
end
theorem aW (hw:cZ N st st') (hr:R) (w:R→AWR P N ops l st' K:=by exact wJ):AWR P N ops l st K:=bT hw (w hr)
theorem iT {c:Code} {σ ρ:Type} {step:σ→Option (cp σ ρ)} {n:Nat} {x0:σ} {r:ρ} (H:iter step n x0=some r) (S:σ→St) (round:∀x o,step x=some o→AWC P N c (S x) (ey N S r o AQ)) (h0:cZ N st (S x0):=by exact wo):AWC P N (.loop c) st AQ:=qd S H h0 round
end
theorem wB {N nx:Nat} {sl sl':List (Nat×T)} {ob ob':List (Nat×Ob)} (o:Nat) (k:Nat) (hs:uU o k sl=some sl':=by exact rfl) (ho:Fr o k ob=some ob':=by exact rfl) (he:Eqs (L9 o k sl):=by repeat (first|exact trivial|refine⟨by first|rfl|simp,?_⟩)) (he2:Eqs (Jc o k ob):=by repeat (first|exact trivial|refine⟨by first|rfl|simp,?_⟩)):cZ N ⟨sl,ob,nx⟩ ⟨sl',ob',nx⟩:=qN hs ho he he2
theorem wS {N nx:Nat} {sl:List (Nat×T)} {ob:List (Nat×Ob)} (p q:Nat) (hp:rsv p=false:=by exact rfl) (hq:rsv q=false:=by exact rfl) (hpn:nlt p nx=true:=by exact rfl) (hqn:nlt q nx=true:=by exact rfl):cZ N ⟨sl,ob,nx⟩ ⟨swS p q sl,swO p q ob,nx⟩:=HN hp hq hpn hqn
end Go.AM
namespace Go.AM
theorem fI {P:Program} {N:Nat} {f:FuncId} {fn:Func} {c:Code} {args:List AV} {rs:List ResultVar} {res:List RV} {sl0:List (Nat×T)} {R:Prop} (hf:P.funcs[f]?=some fn) (hN:fn.ntmps=N) (hr:R) (hb:fn.body=some c:=by exact rfl) (hnm:(fn.name== "runtime.NumGoroutine")=false:=by kernel_rfl) (hrs:fn.results.toList=rs:=by exact rfl)
 (ha:TC args.length N=true:=by exact rfl) (hs:HX 0 args=some sl0:=by exact rfl) (w:R→AWC P N c ⟨sl0,[],0⟩ (DO N P rs res):=by exact wJ):Fn P f args res:=Ra hf hb hnm hN hrs ha hs (w hr)
theorem fW {P:Program} {f:FuncId} {fn:Func} {c:Code} {N:Nat} {x y:Ob} {args:List T} {rs:List ResultVar} {res:List RV} {sl0:List (Nat×T)} {R:Prop} (hf:P.funcs[f]?=some fn) (hN:fn.ntmps=N) (hr:R) (hb:fn.body=some c:=by exact rfl) (hnm:(fn.name== "runtime.NumGoroutine")=false:=by kernel_rfl) (hrs:fn.results.toList=rs:=by exact rfl)
 (ha:TC args.length N=true:=by exact rfl) (hfx:x.free=true:=by exact rfl) (hfy:y.free=true:=by exact rfl) (hs:sK 0 args=sl0:=by exact rfl) (w:R→AWC P N c ⟨sl0,[(200,x)],210⟩ (Fy N P rs res y):=by exact wJ):FnW P f x args y res:=RO hf hb hnm hN hrs ha hfx hfy hs (w hr)
theorem fV {P:Program} {f:FuncId} {fn:Func} {c:Code} {N:Nat} {xs ys:List (Nat×Ob)} {args:List T} {rs:List ResultVar} {out:T} {nw:List (Nat×Ob)} {sl0:List (Nat×T)} {R:Prop} (hf:P.funcs[f]?=some fn) (hN:fn.ntmps=N) (hr:R) (hb:fn.body=some c:=by exact rfl) (hnm:(fn.name== "runtime.NumGoroutine")=false:=by kernel_rfl) (hrs:fn.results.toList=rs:=by exact rfl)
 (ha:TC args.length N=true:=by exact rfl) (hs:sK 0 args=sl0:=by exact rfl) (w:R→AWC P N c ⟨sl0,xs,210⟩ (sE N P rs ys out nw):=by exact wJ):FnV P f xs args ys out nw:=M8 hf hb hnm hN hrs ha hs (w hr)
end Go.AM
namespace Go
def tm (N h:Nat):Nat:=Nat.mod (Nat.shiftRight N (10*h)) 1024
def ranked (P:Program) (N:Nat):Bool:=P.funcs.toList.zipIdx.all fun y=>(P.leadsTo y.1).all fun h=>TC (tm N h+1) (tm N y.2)
theorem Dd {P:Program} {N:Nat} (h:ranked P N=true) {g:Nat} {fn:Func} (hg:P.funcs[g]?=some fn):∀x∈P.leadsTo fn,tm N x<tm N g:=by
 intro x hx
 unfold ranked at h
 rw[TX] at h
 have h1:=h (fn,g) (by rw[List.mem_zipIdx_iff_getElem?];simpa using hg)
 rw[TX] at h1
 exact Nat.le_of_ble_eq_true (h1 x hx)
theorem pX {P:Program} {N r:Nat} (h:ranked P N=true):∀(fuel:Nat) (todo seen:List FuncId),(∀x∈todo,tm N x≤r)→(∀x∈seen,tm N x≤r)→∀x∈P.closureVia fuel todo seen,tm N x≤r
 |0,todo,seen,h1,h2,x,hx=>h2 x (by simpa [Program.closureVia] using hx)
 |n+1,[],seen,h1,h2,x,hx=>h2 x (by simpa [Program.closureVia] using hx)
 |n+1,f::todo,seen,h1,h2,x,hx=>by
  rw[Program.closureVia] at hx
  split at hx
  ·exact pX h n todo seen (fun y hy=>h1 y (by simp[hy])) h2 x hx
  ·refine pX h n _ (f::seen) (fun y hy=>?_) (fun y hy=>?_) x hx
   ·rcases TW.1 hy with hy|hy
    ·cases e:P.funcs[f]? with
     |none=>rw[e] at hy;simp at hy
     |some fn=>
      rw[e] at hy
      have:=Dd h e y (by simpa using hy)
      have:=h1 f (by simp)
      omega
    ·exact h1 y (by simp[hy])
   ·rcases Tq.1 hy with rfl|hy
    ·exact h1 _ (by simp)
    ·exact h2 y hy
theorem recurses_of {P:Program} {N:Nat} (h:ranked P N=true) (f:FuncId):P.recurses f=P.unfollowed f:=by
 unfold Program.recurses
 rw[show((P.closure f).any fun g=>((P.funcs[g]?).elim [] P.leadsTo).any fun h=>(P.closure h).contains g)=false from ?_]
 ·simp
 ·rw[UQ]
  intro g hg
  rw[Vf,UQ]
  intro x hx
  rw[Vf]
  cases hc:(P.closure x).contains g with
  |false=>rfl
  |true=>
   have hm:g∈P.closure x:=by simpa using hc
   have h1:=pX h (r:=tm N x) _ [x] [] (by simp) (by simp) g hm
   cases e:P.funcs[g]? with
   |none=>rw[e] at hx;simp at hx
   |some fn=>
    rw[e] at hx
    have:=Dd h e x (by simpa using hx)
    omega
def Ld (P:Program) (l:List FuncId):List String:=
 l.filterMap fun g=>(P.funcs[g]?).bind fun fn=>if fn.ours||fn.body.isNone||fn.name== "runtime.NumGoroutine" then some fn.name else none
def Fl (P:Program) (l:List FuncId):Bool:=
 l.any fun g=>(P.funcs[g]?).any fun fn=>match fn.body with|some c=>c.unfollowed|none=>entryCalls fn
def HM (P:Program) (l:List FuncId):List String:=
 (((l.flatMap fun g=>((P.funcs[g]?).bind (·.body)).elim [] Code.globalsNamed).eraseDups).filterMap (fun g=>(P.globals[g]?).map (·.name))++
  l.filterMap fun g=>(P.funcs[g]?).bind fun fn=>if fn.body.isNone then entryReads.lookup fn.name else none).eraseDups
theorem inPlace_is {P:Program} {f:FuncId} {l:List FuncId} (h:P.closure f=l):P.inPlace f=Ld P l:=by unfold Program.inPlace;rw[h];rfl
theorem unfollowed_is {P:Program} {f:FuncId} {l:List FuncId} (h:P.closure f=l):P.unfollowed f=Fl P l:=by unfold Program.unfollowed;rw[h];rfl
theorem varsNamed_is {P:Program} {f:FuncId} {l:List FuncId} (h:P.closure f=l):P.varsNamed f=HM P l:=by unfold Program.varsNamed;rw[h];rfl
end Go
