/- A part. -/
import Derived.Test.YtljhooecmjejiaaGreatE3
import Derived.Laws.BytesString
set_option linter.unusedVariables false
set_option linter.unusedSimpArgs false
open List renaming getElem?_eq_getElem→v0,mem_of_getElem?→RS,range→SO,filter_cons_of_pos→Ti,filter_cons_of_neg→Tj,length_cons→SQ,getD_eq_getElem?_getD→TP,getElem?_of_mem→SS,mem_cons_of_mem→TT,getElem?_take→R7,exists_mem_of_ne_nil→TU,getElem?_append_left→RY,cons_append→Sm,any_eq_true→TO,mem_append→TG,map_cons→TI,take_succ_cons→Ss,mem_map→TM,filter_congr→TW,nodup_range→TX,length_map→To,map_append→TJ,mem_filter→TS,mem_range→TY,any_cons→T0,map_nil→TN
open Nat renaming beq→d0,eq_of_beq_eq_true→RU,lt_or_ge→SV,zero_add→R9,le_refl→RX,le_of_ble_eq_true→Tu,lt_trichotomy→TR,add_zero→SC
open Array renaming getElem?_eq_getElem→Sj,getElem?_eq_none→SY,getD_eq_getD_getElem?→Td,replicate→SR,setIfInBounds_eq_of_size_le→TZ
open Bool renaming or_eq_true→SU,or_eq_false_iff→SX,and_eq_true→hV,false_ne_true→Tt,not_eq_true'→Tc,eq_false_iff→TQ,false_or→TL,not_true→TF
namespace Go.AM
open Go.RowKit
structure FnN (P:Program) (f:FuncId) (args:List AV) (ty:TypeId) (xs:List D):Prop where
 enters:∀(vs:Array Value) (w:World),(callFunc f vs).run P w= .ok (.enter f vs) w
 calls:∀(F:Nat→Prop) (w:World) (vals:Array Value),(∀b,F b→b<w.heap.size)→TabsIn w→AR w F args vals.toList→
  Calls P f vals w fun e w'=>∃(b:Nat) (arr:Array Value) (G:Nat→Prop),e= .returned (.pointer (some ⟨b,0,none⟩))∧CG w w' (fun _=>False)∧(∀k,G k→w.heap.size≤k∧k<w'.heap.size∧gA w' k)∧w.heap.size≤b∧b<w'.heap.size∧¬G b∧w'.heap[b]?=some (.cells arr ty (0,0))∧DV w' (fun k=>F k∨G k) xs arr.toList
def EK:C→Option D
 | .d _ x=>some x
 | .nil=>some (.l [])
 |_=>none
def uI:List C→Option (List D)
 |[]=>some []
 |c::cs=>match EK c,uI cs with
  |some x,some xs=>some (x::xs)
  |_,_=>none
theorem LE {cx:Cx} {E:Env} {w:World} (ok:cK cx E w) {c:C} {x:D} {u:Value} (h:EK c=some x) (hc:cvC E w c u):rdD w E.F x u:=by
 cases c with
 |d g y=>simp[EK] at h;subst h;exact oN (g':=false) ok hc (by simp)
 |nil=>
  simp[EK] at h;subst h
  have hu:u= .slice none 0 0:=hc
  subst hu
  rw[rdD];exact⟨none,0,rfl,RX _,.inl rfl⟩
 |_=>simp[EK] at h
theorem BH {cx:Cx} {E:Env} {w:World} (ok:cK cx E w):∀{cs:List C} {xs:List D} {us:List Value},uI cs=some xs→CV E w cs us→DV w E.F xs us
 |[],xs,[],h,_=>by simp[uI] at h;subst h;trivial
 |[],_,_::_,_,hc=>hc.elim
 |c::cs,xs,[],h,hc=>hc.elim
 |c::cs,xs,u::us,h,hc=>by
  simp only[uI] at h
  split at h
  ·rename_i x xs' h1 h2
   simp at h;subst h
   exact⟨LE ok h1 hc.1,BH ok h2 hc.2⟩
  ·cases h
theorem CD {w w':World} {F F':Nat→Prop} (hw:∀b,F b→w'.heap[b]?=w.heap[b]?) (hF:∀b,F b→F' b):∀{xs:List D} {us:List Value},DV w F xs us→DV w' F' xs us
 |[],[],_=>trivial
 |x::xs,u::us,h=>⟨ci hw hF x u h.1,CD hw hF h.2⟩
 |[],_::_,h=>h.elim
 |_::_,[],h=>h.elim
def HZ (N:Nat) (rs:List ResultVar) (ty:TypeId) (xs:List D):Exit→St→Prop
 | .ret,s| .normal,s=>∃s' k o cs,cZ N s s'∧rs=[.tmp k]∧gt s'.sl k= .v (.c (.p o 0))∧go s'.ob o=some (.var ty cs)∧uI cs=some xs∧rsv o=false
 |_,_=>False
instance {N:Nat} {rs:List ResultVar} {ty:TypeId} {xs:List D}:Clo N (HZ N rs ty xs):=⟨fun e s m hw h=>by
 cases e<;>simp only[HZ] at h ⊢<;>first|exact h|(obtain⟨s',k,o,cs,h1,h2⟩:=h;exact⟨s',k,o,cs,aq hw h1,h2⟩)⟩
theorem LX {N:Nat} {s:St} {rs:List ResultVar} {ty:TypeId} {xs xs':List D} {k o:Nat} {cs:List C} (h1:rs=[.tmp k]:=by exact rfl) (h2:gt s.sl k= .v (.c (.p o 0)):=by exact rfl) (h3:go s.ob o=some (.var ty cs):=by exact rfl) (h4:uI cs=some xs':=by exact rfl) (h5:rsv o=false:=by exact rfl) (h6:xs'=xs:=by exact rfl):HZ N rs ty xs .ret s:=by
 subst h6;exact⟨s,k,o,cs,tW s,h1,h2,h3,h4,h5⟩
theorem QA {P:Program} {f:FuncId} {fn:Func} {c:Code} {N:Nat} {args:List AV} {rs:List ResultVar} {ty:TypeId} {xs:List D} {sl0:List (Nat×T)} (hf:P.funcs[f]?=some fn) (hb:fn.body=some c:=by exact rfl) (hnm:(fn.name== "runtime.NumGoroutine")=false:=by kernel_rfl) (hN:fn.ntmps=N) (hrs:fn.results.toList=rs:=by exact rfl)
 (ha:Nat.ble args.length N=true:=by exact rfl) (hs:GH 0 args=some sl0:=by exact rfl) (h:AWC P N c ⟨sl0,[],0⟩ (HZ N rs ty xs)):FnN P f args ty xs:=by
 rw[CL hs] at h
 refine⟨fun vs w=>by simp[callFunc,hf,hb];simpa using hnm,fun F w vals hF hT hA=>?_⟩
 subst hrs
 refine calls_of_wp hf hb ?_
 let E:Env:={r:=fun _=>none,F:=F,G:=fun _=>False}
 obtain⟨h1,h2⟩:=y3 (E:=E) (F:=F) rfl 0 hA
 have hle:args.length≤N:=Tu ha
 have hsz:vals.size=args.length:=by simpa using h1
 have hR:Rel N ⟨w,fun _=>False,fun _=>none,F,fun _=>False,⟨hT,fun _ _ h=>h⟩,fun _=>False⟩ E ⟨rj 0 args,[],0⟩ {tmps:=vals++SR (fn.ntmps-vals.size) undef,defers:=[]} w:=by
  refine⟨⟨hF,fun _ h=>h.elim,fun _ h=>h.elim,(fun _ _ _ h=>by cases h),(fun _ _ _ _ _ h=>by cases h),rfl,rfl,rfl,RX _,fun _ _ _=>rfl,(fun _ _ _ h=>by cases h),fun _ h=>.inl h,fun b h h'=>absurd (hF b h) (by have:w.heap.size≤b:=h';omega),⟨fun _ _ h=>h.elim,fun _ _ _ h=>h.elim,fun _ h=>h.elim,fun _ h=>h.elim,fun _ h=>h.elim⟩⟩,(fun _ _ h=>by cases h),(fun _ _ h=>by cases h),fun k=>?_,rfl,by simp;omega,fun _ _ h=>h.elim⟩
  by_cases hk:k<args.length
  ·obtain⟨u,h3,h4⟩:=(h2 k).1 ⟨Nat.zero_le _,by omega⟩
   have:(vals++SR (fn.ntmps-vals.size) undef).getD k undef=u:=by
    have h5:vals[k]?=some u:=by simpa using h3
    have h6:(vals++SR (fn.ntmps-vals.size) undef)[k]?=some u:=by rw[Array.getElem?_append_left (by omega)];exact h5
    simp[h6]
   rw[this];exact h4
  ·have:=(h2 k).2 (by omega)
   show cvT E w (gt (rj 0 args) k) _
   rw[this];trivial
 refine wp_mono (h _ E _ w hR) ?_
 rintro e a' w' ⟨E',s',hR',hq⟩
 have fin:(∃s'' k o cs,cZ N s' s''∧fn.results.toList=[.tmp k]∧gt s''.sl k= .v (.c (.p o 0))∧go s''.ob o=some (.var ty cs)∧uI cs=some xs∧rsv o=false)→
  a'.defers=[]∧∃v,(results fn a'.tmps).run P w'= .ok v w'∧∃(b:Nat) (arr:Array Value) (G:Nat→Prop),Ending.returned v= .returned (.pointer (some ⟨b,0,none⟩))∧CG w w' (fun _=>False)∧(∀k,G k→w.heap.size≤k∧k<w'.heap.size∧gA w' k)∧w.heap.size≤b∧b<w'.heap.size∧¬G b∧w'.heap[b]?=some (.cells arr ty (0,0))∧DV w' (fun k=>F k∨G k) xs arr.toList:=by
  rintro⟨s'',k,o,cs,hw,hr1,hg,ho,hd,hv⟩
  obtain⟨E'',hR''⟩:=hw _ _ _ _ hR'
  have ok:=hR''.ok
  have hsl:=hR''.sl k
  rw[hg] at hsl
  obtain⟨b,cc,hrb,hu⟩:=hsl
  obtain⟨b',c',arr,k1,k2,k3,k4⟩:=hR''.obs o _ ho
  rw[hrb] at k1;cases k1
  have hfr:fn.results= #[.tmp k]:=by apply Array.ext';simpa using hr1
  refine⟨hR''.dfr,.pointer (some ⟨b,0,none⟩),?_,b,arr,fun k=>E''.F k∧w.heap.size≤k,rfl,⟨ok.os,ok.tape,ok.output,ok.size,ok.block⟩,fun k hk=>⟨hk.2,ok.fb k hk.1,ok.gc k hk.1 hk.2⟩,?_,(ok.rb o b cc hrb).1,fun h=>k4 h.1,k2,?_⟩
  ·have hres:results fn a'.tmps=(fn.results.mapM (jK a'.tmps))>>= fun vs=>pure (if h:vs.size=1 then vs[0] else .tuple vs):=rfl
   rw[hres,hfr]
   simp[jK,hu]
  ·rcases(ok.rb o b cc hrb).2 with h|h
   ·exact h
   ·exact h.1.elim
  ·exact CD (fun _ _=>rfl) (fun k hk=>(ok.ff k hk).elim .inl (fun h=>.inr ⟨hk,h⟩)) (BH ok hd k3)
 cases e with
 |normal=>exact fin hq
 |ret=>exact fin hq
 |_=>exact hq.elim
theorem OY {P:Program} {d:Tmp} {ty0:TypeId} {ps:String} {af:Array Edge} {gd:Option (Nat×Bool)} {f:FuncId} {args:List Operand} {tys:Array TypeId} {ts:List T} {avs:List AV} {eqs:List (Nat×Nat)} {ty:TypeId} {xs:List D} {nx:Nat}
 (hl:ts.length=args.length) (ha:Cs [] ts=some (avs,eqs)) (hF:FnN P f avs ty xs) (he:Eqs eqs):
 AWN P ⟨some d,.call ⟨.value (.func f),args.toArray,tys⟩,ty0,ps,af,gd⟩ (args.zip ts) [] (.v (.c (.p nx 0))) [(nx,.var ty (xs.map (ldC false)))]:=by
 intro cx E a w ok hn hb hfr
 have hA:=Gw ok (nob:=[]) (fun l x h=>by cases h) ha he hl hn
 have hcF:∀b,jd E [] b→E.F b:=by
  rintro b (h|⟨l,x,c,h1,h2⟩)
  ·exact h
  ·cases h1
 have hc:=hF.calls (jd E []) w (args.map a.eval).toArray (fun b h=>ok.fb b (hcF b h)) ok.tabs (by simpa using hA)
 have hent:=hF.enters (args.map a.eval).toArray w
 unfold Oper.wp
 have hrun:(execOp a.eval ⟨some d,.call ⟨.value (.func f),args.toArray,tys⟩,ty0,ps,af,gd⟩).run P w= .ok (.enter f (args.map a.eval).toArray) w:=by
  simp only[execOp,resolve,Act.eval,Deferred.ofValue,Sem.run_bind,Sem.run_pure,Result.andThen_ok,invoke]
  simpa using hent
 rw[hrun,Oper.upon_enter]
 refine hc.mono ?_
 rintro e w' ⟨b,arr,G,rfl,hp,hG,hb1,hb2,hbG,hh,hD⟩
 obtain⟨hl0,hrv⟩:=hfr nx (.var ty (xs.map (ldC false))) (List.mem_singleton.2 rfl)
 obtain⟨ok',ext⟩:=BK (nx:=nx) (bs:=[(b,0)]) ok hp hG (by simp;exact⟨hb1,hb2⟩) (by simp) (fun l h1 h2=>by
  have:l=nx:=by simp at h2;omega
  subst this;exact⟨hl0,hrv⟩)
 have hr:(E.after nx [(b,0)] G).r nx=some (b,0):=by simp[Env.after]
 refine⟨.pointer (some ⟨b,0,none⟩),E.after nx [(b,0)] G,rfl,ok',ext,⟨b,0,hr,rfl⟩,fun l ob hm=>?_,fun l x hx=>?_⟩
 ·simp at hm;obtain⟨rfl,rfl⟩:=hm
  refine⟨b,0,arr,hr,hh,?_,?_⟩
  ·exact K2 (E:=E.after l [(b,0)] G) (F:=fun k=>E.F k∨G k) rfl (CD (fun _ _=>rfl) (fun k hk=>hk.elim (fun h=>.inl (hcF k h)) .inr) hD)
  ·rintro(h|h)
   ·have:=ok.fb b h;omega
   ·exact hbG h
 ·simp only[Env.after] at hx
  split at hx
  ·rename_i hh2
   have:l=nx:=by have:=hh2.2;simp at this;omega
   subst this;exact .inr ⟨.var ty (xs.map (ldC false)),List.mem_singleton.2 rfl⟩
  ·exact .inl hx
theorem cn {P:Program} {N:Nat} {d:Tmp} {ty0:TypeId} {ps:String} {af:Array Edge} {gd:Option (Nat×Bool)} {f:FuncId} {args:List Operand} {tys:Array TypeId} {sl:List (Nat×T)} {ob:List (Nat×Ob)} {nx nx':Nat} {ts:List T} {avs:List AV} {eqs:List (Nat×Nat)} {ty:TypeId} {xs:List D} {cs:List C}
 (hF:FnN P f avs ty xs) (ht:xf sl args=some ts) (ha:Cs [] ts=some (avs,eqs)) (he:Eqs eqs) (hc:ldO false xs=some cs) (hN:nlt d N=true) (hq:nxt nx=some nx'):
 NS P N ⟨some d,.call ⟨.value (.func f),args.toArray,tys⟩,ty0,ps,af,gd⟩ ⟨sl,ob,nx⟩ ⟨(d,.v (.c (.p nx 0)))::sl,(nx,.var ty cs)::ob,nx'⟩ ⟨d,args.zip ts,[],.v (.c (.p nx 0)),[(nx,.var ty cs)]⟩:=by
 obtain⟨h1,h2⟩:=oL ht
 rw[C7 hc]
 exact cV (st:=⟨sl,ob,nx⟩) (OY h1 ha hF he) rfl hN h2 trivial (lq hq)
end Go.AM
namespace Go.AM
open Go.RowKit
def EZ (R:Nat→Prop):Env:={r:=fun _=>none,F:=fun _=>False,G:=fun _=>False,Z:=R}
structure PL (w w':World) (R:Nat→Prop):Prop where
 os:w'.os=w.os
 tape:w'.tape=w.tape
 output:w'.output=w.output
 size:w.heap.size≤w'.heap.size
 block:∀b,b<w.heap.size→¬R b→w'.heap[b]?=w.heap[b]?
 sim:∀b,R b→nD w w' b∧gA w' b
structure FnM (P:Program) (f:FuncId) (args:List T) (n:Int):Prop where
 enters:∀(vs:Array Value) (w:World),(callFunc f vs).run P w= .ok (.enter f vs) w
 calls:∀(R:Nat→Prop) (w:World) (vals:Array Value),(∀b,R b→b<w.heap.size∧gA w b)→TabsIn w→(∀k∈qO,¬R k)→TV (EZ R) w args vals.toList→
  Calls P f vals w fun e w'=>e= .returned (.int .i64 n)∧PL w w' R
section
variable {P:Program} {N:Nat} {d:Tmp} {x y:Operand} {ty:TypeId} {ps:String} {af:Array Edge} {gd:Option (Nat×Bool)} {sl:List (Nat×T)} {ob:List (Nat×Ob)} {nx:Nat} {α:Type} {enc:α→List D}
theorem O2 {t:TypeId} {xs:List (List D)} {e sz by_:Nat} [ht:TySl P t e sz by_]:AWN P ⟨some d,.call ⟨.builtin .len,#[x],#[t]⟩,ty,ps,af,gd⟩ [(x,.v (.c (.z (.l xs))))] [] (tI xs.length) []:=
 bY fun E ac w hn _=>by
  have h:=hn x _ (.head _)
  simp only[cvT,cvV,cvC,rsD] at h
  obtain⟨A,c,hu,_⟩:=h
  exact⟨_,by simp[execOp,resolve,invoke,builtin,hu,Builtin.len_,underlying,ht.u,goInt];rfl,by simp[cvT,cvV,cvC,rdD]⟩
theorem Kc {t:TypeId} {f off ft:Nat} {e:List D} {j:Nat} [h:TyF P t f off ft]:AWN P ⟨some d,.fieldAddr t x f,ty,ps,af,gd⟩ [(x,.v (.c (.zq e j)))] [] (.v (.c (.zq e (j+off)))) []:=
 bY fun E a w hn _=>by
  obtain⟨b,k,hu,hb,hl⟩:=hn x _ (.head _)
  exact⟨_,by simp[execOp,hu,oH];rfl,b,k,by simp[Nat.add_assoc],hb,hl⟩
theorem MD {t:TypeId} {e:List D} {j:Nat} {xd:D} [ht:TySc P t] (hc:e[j]?=some xd):AWN P ⟨some d,.load t x,ty,ps,af,gd⟩ [(x,.v (.c (.zq e j)))] [] (.v (.c (.z xd))) []:=
 bY fun E a w hn _=>by
  obtain⟨b,k,hu,hb,hl⟩:=hn x _ (.head _)
  obtain⟨u,h1,h2⟩:=Hs hl hc
  exact⟨u,by simp[execOp,hu,jG h1],h2⟩
theorem FT {w:World} {F:Nat→Prop}:∀{e:List D} {b k:Nat},rsL w F e b k→∃us:List Value,us.length=e.length∧(∀(j:Nat) (u:Value),us[j]?=some u→w.cell? ⟨b,k+j,none⟩=some u)∧∀(j:Nat) (xd:D),e[j]?=some xd→∃u,us[j]?=some u∧rsD w F xd u
 |[],b,k,_=>⟨[],rfl,by simp,by simp⟩
 |x::e,b,k,h=>by
  rw[rsL] at h
  obtain⟨⟨u,hc,hu⟩,h⟩:=h
  obtain⟨us,h1,h2,h3⟩:=FT h
  refine⟨u::us,by simp[h1],fun j v hj=>?_,fun j xd hj=>?_⟩
  ·cases j with
   |zero=>simp at hj;subst hj;simpa using hc
   |succ j=>have:=h2 j v (by simpa using hj);rwa [show k+1+j=k+(j+1) from by omega] at this
  ·cases j with
   |zero=>simp at hj;subst hj;exact⟨u,rfl,hu⟩
   |succ j=>obtain⟨v,h4,h5⟩:=h3 j xd (by simpa using hj);exact⟨v,by simpa using h4,h5⟩
theorem Eh {E:Env} {w:World}:∀{e:List D} {us:List Value},us.length=e.length→(∀(j:Nat) (xd:D),e[j]?=some xd→∃u,us[j]?=some u∧rsD w E.Z xd u)→CV E w (e.map C.z) us
 |[],[],_,_=>trivial
 |x::e,u::us,hl,h=>by
  obtain⟨v,h1,h2⟩:=h 0 x rfl
  simp at h1;subst h1
  exact⟨h2,Eh (by simpa using hl) fun j xd hj=>by obtain⟨v,h3,h4⟩:=h (j+1) xd (by simpa using hj);exact⟨v,by simpa using h3,h4⟩⟩
 |[],_::_,hl,_=>by simp at hl
 |_::_,[],hl,_=>by simp at hl
theorem Ab {w:World} {F:Nat→Prop}:∀{e:List D} {b k:Nat} (_:rsL w F e b k) (j n:Nat),rsL w F ((e.drop j).take n) b (k+j)
 |[],b,k,_,j,n=>by simp[rsL]
 |x::e,b,k,h,0,0=>by simp[rsL]
 |x::e,b,k,h,0,n+1=>by
  rw[rsL] at h
  have:=Ab h.2 0 n
  simp only[List.drop_zero,Ss,SC] at this ⊢
  rw[rsL];exact⟨h.1,this⟩
 |x::e,b,k,h,j+1,n=>by
  rw[rsL] at h
  have:=Ab h.2 j n
  simp only[List.drop_succ_cons]
  rwa [show k+1+j=k+(j+1) from by omega] at this
def zO:List D→Option (List C)
 |[]=>some []
 |x::xs=>match zO xs with|some r=>some (.z x::r)|none=>none
theorem Qh:∀{xs:List D} {cs:List C},zO xs=some cs→cs=xs.map C.z
 |[],cs,h=>by simp[zO] at h;subst h;rfl
 |x::xs,cs,h=>by
  simp only[zO] at h
  split at h
  ·rename_i r h1;simp at h;subst h;rw[Qh h1];rfl
  ·cases h
def zPO (j n:Nat) (e:List D):Option (List C):=match vN j n e with|some r=>zO r|none=>none
theorem Dl {t:TypeId} {n:Nat} {e:List D} {j:Nat} {cs:List C} [ht:TyAg P t n] (hj:zPO j n e=some cs):
 AWN P ⟨some d,.load t x,ty,ps,af,gd⟩ [(x,.v (.c (.zq e j)))] [] (.v (.agg cs)) []:=
 bY fun E a w hn _=>by
  simp only[zPO] at hj
  split at hj
  ·rename_i r h1
   obtain⟨rfl,hle⟩:=vO h1
   rw[Qh hj]
   obtain⟨b,k,hu,hb,hl⟩:=hn x _ (.head _)
   obtain⟨us,k1,k2,k3⟩:=FT (Ab hl j n)
   have hlen:us.length=n:=by rw[k1];simp;omega
   exact⟨.agg us.toArray,by simp[execOp,hu,nR hlen k2],us.toArray,rfl,by simpa using Eh k1 k3⟩
  ·cases hj
theorem lz {t:TypeId} {xs:List α} {e sz by_:Nat} [TySl P t e sz by_] (hx:opT sl x= .v (.c (.z (.l (xs.map enc))))) (hN:nlt d N=true):
 NS0 P N ⟨some d,.call ⟨.builtin .len,#[x],#[t]⟩,ty,ps,af,gd⟩ sl ob nx d (tI xs.length) ⟨d,[(x,.v (.c (.z (.l (xs.map enc)))))],[],tI xs.length,[]⟩:=by
 have:=cV (st:=⟨sl,ob,nx⟩) (O2 (P:=P) (d:=d) (ty:=ty) (ps:=ps) (af:=af) (gd:=gd) (t:=t) (xs:=xs.map enc) (x:=x)) rfl hN ⟨hx,trivial⟩ trivial rfl
 rwa [To] at this
theorem fz {t:TypeId} {f off ft:Nat} {e:List D} {j j':Nat} [TyF P t f off ft] (hx:opT sl x= .v (.c (.zq e j))) (hN:nlt d N=true) (hk:j+off=j'):NS0 P N ⟨some d,.fieldAddr t x f,ty,ps,af,gd⟩ sl ob nx d (.v (.c (.zq e j'))) ⟨d,[(x,.v (.c (.zq e j)))],[],.v (.c (.zq e j')),[]⟩:=by
 subst hk;exact cV (st:=⟨sl,ob,nx⟩) Kc rfl hN ⟨hx,trivial⟩ trivial rfl
theorem oz {t:TypeId} {e:List D} {j:Nat} {xd:D} [TySc P t] (hx:opT sl x= .v (.c (.zq e j))) (hN:nlt d N=true) (hc:e[j]?=some xd):
 NS0 P N ⟨some d,.load t x,ty,ps,af,gd⟩ sl ob nx d (.v (.c (.z xd))) ⟨d,[(x,.v (.c (.zq e j)))],[],.v (.c (.z xd)),[]⟩:=cV (st:=⟨sl,ob,nx⟩) (MD hc) rfl hN ⟨hx,trivial⟩ trivial rfl
theorem oza {t:TypeId} {n:Nat} {e:List D} {j:Nat} {cs:List C} [TyAg P t n] (hx:opT sl x= .v (.c (.zq e j))) (hN:nlt d N=true) (hc:zPO j n e=some cs):
 NS0 P N ⟨some d,.load t x,ty,ps,af,gd⟩ sl ob nx d (.v (.agg cs)) ⟨d,[(x,.v (.c (.zq e j)))],[],.v (.agg cs),[]⟩:=cV (st:=⟨sl,ob,nx⟩) (Dl hc) rfl hN ⟨hx,trivial⟩ trivial rfl
def um:D→C→Bool
 | .i k _,.d _ (.i k' _)=>k==k'
 | .b _,.d _ (.b _)=>true
 | .str _,.d _ (.str _)=>true
 |_,_=>false
theorem M8 {cx:Cx} {E:Env} {st:St} {a:Act} {w w':World} (hR:Rel N cx E st a w) (hp:PL w w' E.Z):Rel N cx E st a w':=by
 have hz:∀b,E.Z b→¬E.F b:=fun b h=>(hR.ok.sf.zb b h).2.1
 have hHn:∀g b,E.H g b→¬E.Z b:=fun g b h hb=>by cases g;exact hz b hb h;exact hz b hb (hR.ok.gf b h)
 have hrn:∀o b c,E.r o=some (b,c)→¬E.Z b:=fun o b c h hb=>(hR.ok.sf.zb b hb).2.2.1 o c h
 have htn:∀l b,E.T l b→¬E.Z b:=fun l b h hb=>by have h1:=(hR.ok.sf.tb l b h).1.2;have h2:=(hR.ok.sf.zb b hb).1.1;omega
 have hk:il E w E w':=⟨fun _ _ h=>h,fun _ _ h=>h,fun g b h=>hp.block b (hR.ok.hb h) (hHn g b h),fun l b h=>⟨h,hp.block b (hR.ok.sf.tb l b h).1.1 (htn l b h)⟩,fun b h=>⟨h,(hp.sim b h).1⟩,rfl⟩
 have hsz:=hp.size
 refine⟨⟨fun b h=>by have:=hR.ok.fb b h;omega,hR.ok.gf,hR.ok.gn,fun o b c h=>⟨by have:=(hR.ok.rb o b c h).1;omega,(hR.ok.rb o b c h).2⟩,hR.ok.inj,hp.os.trans hR.ok.os,hp.tape.trans hR.ok.tape,hp.output.trans hR.ok.output,by have:=hR.ok.size;omega,fun b h hW=>?_,hR.ok.pin,hR.ok.ff,fun b h h'=>(hR.ok.gc b h h').of_eq (hp.block b (hR.ok.fb b h) (hHn false b h)),?_⟩,hR.dom,fun o x h=>?_,fun k=>ie hk (hR.sl k),hR.dfr,hR.size,hR.td⟩
 ·rw[hp.block b (by have:=hR.ok.size;omega) (fun hz=>hW (hR.ok.sf.zb b hz).1.2.2)];exact hR.ok.block b h hW
 ·refine⟨fun l b h=>?_,hR.ok.sf.tt,fun b h=>?_,fun b h=>?_,hR.ok.sf.ze⟩
  ·obtain⟨h1,h2,h3,h4⟩:=hR.ok.sf.tb l b h
   exact⟨⟨by omega,h1.2⟩,h2,h3,h4.of_eq (hp.block b h1.1 (htn l b h))⟩
  ·obtain⟨h1,h2,h3,h4⟩:=hR.ok.sf.zc b h
   refine⟨⟨h1.1,by omega,h1.2.2⟩,h2,h3,?_⟩
   by_cases hb:E.Z b
   ·exact(hp.sim b hb).2
   ·exact h4.of_eq (hp.block b h1.2.1 hb)
  ·refine(hR.ok.sf.zs b h).trans ?_
   by_cases hb:E.Z b
   ·exact(hp.sim b hb).1
   ·exact .of_eq (hp.block b (hR.ok.sf.zc b h).1.2.1 hb)
 ·exact eU hk (fun b c h'=>hp.block b (hR.ok.rb o b c h').1 (hrn o b c h')) (fun _ _ _ h=>h) (hR.obs o x h)
theorem wW {w:World} {b:Nat} {arr:Array Value} {ty':TypeId} {fz:Nat×Nat} {k:Nat} (h:w.heap[b]?=some (.cells arr ty' fz)):w.cell? ⟨b,k,none⟩=arr[k]?:=by
 simp[World.cell?,h]
theorem D3 {P:Program} {t:TypeId} {b k:Nat} {vt:TypeId} {arr:Array Value} {u:Value} {w:World} {fz:Nat×Nat} [ht:TyN P t 1] (hu:u.cells= #[u]) (h1:u.oneCell'=true) (hh:w.heap[b]?=some (.cells arr vt fz)) (hf:fz=(0,0)∨arr.size≤fz.1) (hk:k<arr.size):
 (Instr.storeAt t (.pointer (some ⟨b,k,none⟩)) u).run P w= .ok () (w.setRow b (arr.setIfInBounds k u)):=by
 obtain⟨i,hi,hn⟩:=ht.n
 have hadd:(⟨b,k,none⟩:Addr).add 0=⟨b,k,none⟩:=by unfold Addr.add;split<;>simp_all
 have hcell:w.cell? ⟨b,k,none⟩=some arr[k]:=by simp[World.cell?,hh,hk]
 have hfro:w.frozen? ⟨b,k,none⟩=false:=by
  rcases hf with rfl|hf
  ·simp[World.frozen?,hh]
  ·simp[World.frozen?,hh];intro;omega
 have hst:(store ((⟨b,k,none⟩:Addr).add 0) u).run P w= .ok () (w.setRow b (arr.setIfInBounds k u)):=by
  rw[hadd,run_store P w _ u _ h1,hcell]
  simp[hfro,setCell_eq_setRow w b k arr vt fz u hh]
 simp[Instr.storeAt,Instr.sureAddr,storeVar,eG hi,hn,hu,storeCells,hst]
theorem stz {t:TypeId} {e:List D} {j:Nat} {xd:D} {c:C} [ht:TyN P t 1] (hx:opT sl x= .v (.c (.zq e j))) (hy:opT sl y= .v (.c c)) (hc:e[j]?=some xd) (hl:um xd c=true):AWO P N ⟨none,.store t x y,ty,ps,af,gd⟩ ⟨sl,ob,nx⟩ ⟨sl,ob,nx⟩:=by
 intro cx E a w hR
 have h1:=hR.op x;rw[hx] at h1
 have h2:=hR.op y;rw[hy] at h2
 obtain⟨b,k,hu,hb,hrs⟩:=h1
 obtain⟨u,hcell,hud⟩:=Hs hrs hc
 have hsim:HB u (a.eval y)∧(a.eval y).cells= #[a.eval y]∧(a.eval y).oneCell'=true:=by
  cases xd with
  |i kd n=>
   cases c with
   |d g z=>
    cases z with
    |i kd' n'=>
     simp[um] at hl;subst hl
     have h2:a.eval y= .int kd n':=by simpa [cvT,cvV,cvC,rdD] using h2
     rw[rsD] at hud
     obtain⟨m,rfl⟩:=hud
     rw[h2];exact⟨.inr (.inl ⟨_,_,_,rfl,rfl⟩),rfl,rfl⟩
    |_=>simp[um] at hl
   |_=>simp[um] at hl
  |b n=>
   cases c with
   |d g z=>
    cases z with
    |b n'=>
     have h2:a.eval y= .bool n':=by simpa [cvT,cvV,cvC,rdD] using h2
     rw[rsD] at hud
     obtain⟨m,rfl⟩:=hud
     rw[h2];exact⟨.inr (.inr (.inl ⟨_,_,rfl,rfl⟩)),rfl,rfl⟩
    |_=>simp[um] at hl
   |_=>simp[um] at hl
  |str n=>
   cases c with
   |d g z=>
    cases z with
    |str n'=>
     have h2:a.eval y= .string n':=by simpa [cvT,cvV,cvC,rdD] using h2
     rw[rsD] at hud
     obtain⟨m,rfl⟩:=hud
     rw[h2];exact⟨.inr (.inr (.inr ⟨_,_,rfl,rfl⟩)),rfl,rfl⟩
    |_=>simp[um] at hl
   |_=>simp[um] at hl
  |l xs=>cases c<;>simp[um] at hl
  |k A n c'=>cases c<;>simp[um] at hl
 obtain⟨hs1,hs2,hs3⟩:=hsim
 obtain⟨arr,vt,fz,hh,hfz⟩:=(hR.ok.sf.zb b hb).2.2.2
 have hlt:k+j<arr.size:=by
  rw[wW hh] at hcell
  rcases SV (k+j) arr.size with h|h
  ·exact h
  ·rw[SY h] at hcell;cases hcell
 have hrun:=D3 (P:=P) (t:=t) (b:=b) (k:=k+j) (u:=a.eval y) (w:=w) hs2 hs3 hh hfz hlt
 unfold Oper.wp
 simp only[execOp,hu,Sem.run_bind,hrun,Result.andThen_ok,Sem.run_pure,Oper.upon_skip,Act.put]
 refine⟨E,M8 hR ⟨rfl,rfl,rfl,by simp,fun k' _ hk'=>db _ _ _ _ (fun e=>hk' (e▸hb)),fun b' hb'=>?_⟩⟩
 by_cases hbb:b'=b
 ·subst hbb
  have hsr:(w.setRow b' (arr.setIfInBounds (k+j) (a.eval y))).heap[b']?=some (.cells (arr.setIfInBounds (k+j) (a.eval y)) vt fz):=setRow_heap w b' arr _ vt fz hh
  refine⟨fun i v hv=>?_,_,_,_,hsr,by simpa using hfz⟩
  rw[wW hh] at hv hcell
  rw[wW hsr]
  by_cases hi:i=k+j
  ·subst hi
   rw[hcell] at hv;cases hv
   exact⟨a.eval y,by simp[hlt],hs1⟩
  ·refine⟨v,?_,.inl rfl⟩
   rw[Array.getElem?_setIfInBounds_ne (fun e=>hi e.symm)]
   exact hv
 ·exact⟨.of_eq (db _ _ _ _ hbb),(hR.ok.sf.zb b' hb').2.2.2.of_eq (db _ _ _ _ hbb)⟩
def C.hasR (l:Nat):C→Bool
 | .r k _=>d0 k l
 |_=>false
def Fa (l:Nat):List C→Bool
 |[]=>false
 |c::cs=>c.hasR l||Fa l cs
def V.hasR (l:Nat):V→Bool
 | .c x=>x.hasR l
 | .agg xs=>Fa l xs
def C4 (l:Nat):List V→Bool
 |[]=>false
 |v::vs=>v.hasR l||C4 l vs
def T.hasR (l:Nat):T→Bool
 | .v x=>x.hasR l
 | .tup xs=>C4 l xs
 | .any=>false
def xJ (l:Nat):List (Nat×T)→Option (List (Nat×T))
 |[]=>some []
 |(k,t)::r=>match xJ l r with
  |some r'=>match t.hasR l with
   |true=>some ((k,.any)::r')
   |false=>some ((k,t)::r')
  |none=>none
theorem EM {l:Nat}:∀{sl sl':List (Nat×T)},xJ l sl=some sl'→∀k,gt sl' k= .any∨(gt sl' k=gt sl k∧(gt sl k).hasR l=false)
 |[],sl',h,k=>by simp[xJ] at h;subst h;exact .inl rfl
 |(j,t)::r,sl',h,k=>by
  simp only[xJ] at h
  split at h
  ·rename_i r' h1
   have ih:=EM h1 k
   split at h
   ·simp at h;subst h
    by_cases hj:j=k
    ·subst hj;left;rw[dJ]
    ·rw[cN _ _ hj,cN _ _ hj];exact ih
   ·rename_i ht
    simp at h;subst h
    by_cases hj:j=k
    ·subst hj;right;rw[dJ,dJ];exact⟨rfl,ht⟩
    ·rw[cN _ _ hj,cN _ _ hj];exact ih
  ·cases h
structure KeepsR (l:Nat) (E:Env) (w:World) (E':Env) (w':World):Prop where
 r:∀o x,E.r o=some x→E'.r o=some x
 H:∀g b,E.H g b→E'.H g b
 heap:∀g b,E.H g b→w'.heap[b]?=w.heap[b]?
 T:∀k b,k≠l→E.T k b→E'.T k b∧w'.heap[b]?=w.heap[b]?
 Z:∀b,E.Z b→E'.Z b∧nD w w' b
 n:E'.n=E.n
end
end Go.AM
namespace Go.AM
open Go.RowKit
def rH (ns:List Int):ByteArray:=ns.foldl (fun r n=>r.push (UInt8.ofNat n.toNat)) ByteArray.empty
section
variable {P:Program} {N:Nat} {d:Tmp} {x y:Operand} {ty:TypeId} {ps:String} {af:Array Edge} {gd:Option (Nat×Bool)} {sl:List (Nat×T)} {ob:List (Nat×Ob)} {nx:Nat}
theorem Jf {w:World} {F:Nat→Prop} {b:Nat}:∀{xs:List Int} {k:Nat},rdLL w F (xs.map eU8) b k→∀(j:Nat) (u:Value),(xs.map (Value.int .u8))[j]?=some u→w.cell? ⟨b,k+j,none⟩=some u
 |[],k,_,j,u,h=>by simp at h
 |n::xs,k,h,j,u,hj=>by
  rw[TI,rdLL] at h
  obtain⟨h1,h2⟩:=h
  simp only[eU8,rdL,rdD] at h1
  obtain⟨⟨v,hc,rfl⟩,_⟩:=h1
  cases j with
  |zero=>simp at hj;subst hj;simpa using hc
  |succ j=>
   have:=Jf h2 j u (by simpa using hj)
   rwa [show k+(eU8 n).length+j=k+(j+1) from by simp[eU8];omega] at this
theorem Pk {w:World} {F:Nat→Prop} {A:Option Addr} {xs:List Int} {c:Nat} (h:xs=[]∨∃b off,A=some ⟨b,off,none⟩∧rdLL w F (xs.map eU8) b off):(Conv.bytesToString (.slice A xs.length c)).run P w= .ok (.string (rH xs)) w:=by
 cases A with
 |none=>
  rcases h with rfl|⟨b,off,h,_⟩
  ·rfl
  ·cases h
 |some a=>
  refine run_bytesToString w a xs.length c xs ?_
  rcases h with rfl|⟨b,off,h,hr⟩
  ·rfl
  ·cases h
   have:=kk (P:=P) (b:=b) (k:=off) (w:=w) (xs.map (Value.int .u8)) 0 #[] (fun j u hj=>by rw[R9];exact Jf hr j u hj)
   simpa [loadCells] using this
theorem n_bts {t t' e:TypeId} {sz by_:Nat} {g:Bool} {xs:List Int} [hs:TySl P t e sz by_] [he:TyU P e (.int .u8)] [hd:TyU P t' .string]:
 AWN P ⟨some d,.convert t t' x,ty,ps,af,gd⟩ [(x,.v (.c (.d g (.l (xs.map eU8)))))] [] (tS (rH xs)) []:=
 bY fun E ac w hn _=>by
  have h:=hn x _ (.head _)
  simp only[cvT,cvV,cvC,rdD] at h
  obtain⟨A,c,hu,_,h⟩:=h
  rw[To] at hu
  refine⟨.string (rH xs),?_,by simp[cvT,cvV,cvC,rdD]⟩
  have:=Pk (P:=P) (w:=w) (F:=E.H g) (A:=A) (xs:=xs) (c:=c) (by
   rcases h with h|⟨b,off,h1,_,h2⟩
   ·left;simpa using h
   ·right;exact⟨b,off,h1,h2⟩)
  simp only[execOp,hu,Sem.run_bind,run_convert_bytes_string w t t' e A xs.length c hs.u he.h hd.h,this,Result.andThen_ok,Sem.run_pure]
theorem bt1 {t t' e:TypeId} {sz by_:Nat} {g:Bool} {xs:List Int} [TySl P t e sz by_] [TyU P e (.int .u8)] [TyU P t' .string] (hx:opT sl x= .v (.c (.d g (.l (xs.map eU8))))) (hN:nlt d N=true):
 NS0 P N ⟨some d,.convert t t' x,ty,ps,af,gd⟩ sl ob nx d (tS (rH xs)) ⟨d,[(x,.v (.c (.d g (.l (xs.map eU8)))))],[],tS (rH xs),[]⟩:=cV (st:=⟨sl,ob,nx⟩) n_bts rfl hN ⟨hx,trivial⟩ trivial rfl
end
end Go.AM
namespace Go.AM
open Go.RowKit
structure JE (up:List (Nat×Ob)) (E:Env) (w:World) (E':Env) (w':World):Prop where
 r:∀o x,E.r o=some x→E'.r o=some x
 F:∀b,E.F b→E'.F b
 G:∀b,E.G b→E'.G b
 F':∀b,E'.F b→E.F b∨w.heap.size≤b
 heap:∀b,b<w.heap.size→(∀l ob c,(l,ob)∈up→E.r l≠some (b,c))→w'.heap[b]?=w.heap[b]?
 own:∀l ob b c,(l,ob)∈up→E.r l=some (b,c)→¬E.F b
 T:E'.T=E.T
 Z:E'.Z=E.Z
 n:E'.n=E.n
theorem JE.of_ext {E E':Env} {w w':World} (x:Ext E w E' w'):JE [] E w E' w':=⟨x.r,x.F,x.G,x.F',fun b h _=>x.heap b h,fun _ _ _ _ h=>(by cases h),x.T,x.Z,x.n⟩
theorem il.of_extW {cx:Cx} {E E':Env} {w w':World} {up:List (Nat×Ob)} (ok:cK cx E w) (x:JE up E w E' w'):il E w E' w':=by
 have hF:∀b,E.F b→w'.heap[b]?=w.heap[b]?:=fun b h=>x.heap b (ok.fb b h) (fun l ob c hm hr=>x.own l ob b c hm hr h)
 refine⟨x.r,fun g b h=>by cases g;exact x.F b h;exact x.G b h,fun g b h=>by cases g;exact hF b h;exact hF b (ok.gf b h),fun l b h=>⟨by rw[x.T];exact h,x.heap b (ok.sf.tb l b h).1.1 (fun l' ob c _ hr=>(ok.sf.tb l b h).2.2.1 l' c hr)⟩,
  fun b h=>⟨by rw[x.Z];exact h,.of_eq (x.heap b (ok.sf.zb b h).1.2.1 (fun l' ob c _ hr=>(ok.sf.zb b h).2.2.1 l' c hr))⟩,x.n⟩
def AWX (P:Program) (o:Oper) (needs:List (Operand×T)) (nob:List (Nat×Ob)) (out:T) (nw up:List (Nat×Ob)):Prop:=
 ∀(cx:Cx) (E:Env) (a:Act) (w:World),cK cx E w→(∀x t,(x,t)∈needs→cvT E w t (a.eval x))→(∀l ob,(l,ob)∈nob→co E w l ob)→
  (∀l ob,(l,ob)∈nw→E.r l=none∧rsv l=false)→
  o.wp P a w (fun a' w'=>∃v E',a'=a.put o.dst v∧cK cx E' w'∧JE up E w E' w'∧cvT E' w' out v∧(∀l ob,(l,ob)∈nw→co E' w' l ob)∧(∀l ob,(l,ob)∈up→co E' w' l ob)∧
   (∀l x,E'.r l=some x→E.r l=some x∨∃ob,(l,ob)∈nw)) (fun _ _ _=>False)
theorem y7 {P:Program} {o:Oper} {needs:List (Operand×T)} {nob:List (Nat×Ob)} {out:T} {nw:List (Nat×Ob)} (h:AWN P o needs nob out nw):AWX P o needs nob out nw []:=by
 intro cx E a w ok hn hb hf
 refine Oper.wp_mono ?_ (h cx E a w ok hn hb hf)
 rintro a' w' ⟨v,E',h1,h2,h3,h4,h5,h6⟩
 exact⟨v,E',h1,h2,.of_ext h3,h4,h5,(fun _ _ h=>by cases h),h6⟩
theorem JK {P:Program} {d:Tmp} {ty:TypeId} {ps:String} {af:Array Edge} {gd:Option (Nat×Bool)} {f:FuncId} {args:List Operand} {tys:Array TypeId} {nx o:Nat} {x0 y:Ob} {ts ts':List T} {eqs:List (Nat×Nat)} {res:List RV} {out:T} {nw:List (Nat×Ob)} {n:Nat}
 (hF:FnW P f x0.loc ts' y res) (hlen:ts.length=args.length) (hfx:x0.free=true) (hfy:y.free=true) (ha:xN [] o ts=some (ts',eqs)) (he:Eqs eqs) (hi:Bb nx res=some (out,nw,n)):
 AWX P ⟨some d,.call ⟨.value (.func f),args.toArray,tys⟩,ty,ps,af,gd⟩ (args.zip ts) [(o,x0)] out nw [(o,y)]:=by
 intro cx E a w ok hn hb hfr
 obtain⟨nob,hnob⟩:∃nob:List (Nat×Ob),nob=[]:=⟨_,rfl⟩
 rw[←hnob] at ha
 have hob:∀l x,go nob l=some x→co E w l x:=fun l x h=>by subst hnob;cases h
 have hx0:=hb o x0 (by simp)
 obtain⟨b,c0,hr,hbF⟩:∃b c0,E.r o=some (b,c0)∧¬E.F b:=by
  cases x0 with
  |rown ty sz els g=>exact absurd hfx Tt
  |abs l y=>exact absurd hfx Tt
  |var t cs=>obtain⟨b,c,arr,h1,h2,h3,h4⟩:=hx0;exact⟨b,c,h1,h4⟩
  |row t sz els g m=>
   obtain⟨b,c,arr,h1,h2,h3,h4,h5,h6,h7,h8,h9⟩:=hx0
   have hm:m=true:=hfx
   subst hm
   exact⟨b,c,h1,h8 rfl⟩
 have hbC:¬jd E nob b:=by
  rintro(h|⟨l,x,c,h1,h2⟩)
  ·exact hbF h
  ·subst hnob;cases h1
 have hFb:∀b,jd E nob b→b<w.heap.size:=by
  rintro b (h|⟨l,x,c,h1,h2⟩)
  ·exact ok.fb b h
  ·exact(ok.rb l b c h2).1
 have hbs0:=(ok.rb o b c0 hr).1
 have hA:=zP (a:=a) ok hob hr ha he hlen hn
 have hX:co (E0 b c0 (jd E nob)) w 200 x0.loc:=by
  have hl:=Cc ok hfx hx0
  have hnoG:∀E2:Env,(∀k,E.F k→E2.F k)→E2.r 200=some (b,c0)→¬E2.F b→co E2 w 200 x0.loc:=by
   intro E2 h1 h2 h3
   cases x0 with
   |rown ty sz els g=>exact absurd hfx Tt
   |abs l y=>exact absurd hfx Tt
   |var t cs=>
    obtain⟨b',c',arr,k1,k2,k3,k4⟩:=hl
    rw[hr] at k1;cases k1
    refine⟨b,c0,arr,h2,k2,?_,h3⟩
    have key:∀(cs:List C) (us:List Value),cs.all C.free=true→CV E w (cs.map C.loc) us→CV E2 w (cs.map C.loc) us:=by
     intro cs
     induction cs with
     |nil=>
      intro us _ h
      cases us with
      |nil=>trivial
      |cons _ _=>exact h.elim
     |cons c cs ih=>
      intro us hf h
      simp only[List.all_cons,hV] at hf
      cases us with
      |nil=>exact h.elim
      |cons u us=>
       refine⟨?_,ih us hf.2 h.2⟩
       have h5:=h.1
       cases c with
       |d g y=>exact ci (fun _ _=>rfl) h1 _ _ h5
       |nil=>exact h5
       |fn f=>exact h5
       |any=>trivial
       |_=>simp[C.free] at hf
    exact key cs _ hfx k3
   |row t sz els g m=>
    obtain⟨b',c',arr,k1,k2,k3,k4,k5,k6,k7,k8,k9⟩:=hl
    rw[hr] at k1;cases k1
    have hm:m=true:=hfx
    subst hm
    exact⟨b,c0,arr,h2,k2,k3,k4,k5,k6,cd (fun _ _=>rfl) h1 rfl _ _ k7,fun _=>h3,fun h=>by cases h⟩
  exact hnoG _ (fun k hk=>.inl hk) (by simp[E0]) hbC
 have hc:=hF.calls (jd E nob) w (args.map a.eval).toArray b c0 hFb hbs0 ok.tabs (ok.ntab hr) hX (by simpa using hA)
 have hent:=hF.enters (args.map a.eval).toArray w
 unfold Oper.wp
 have hrun:(execOp a.eval ⟨some d,.call ⟨.value (.func f),args.toArray,tys⟩,ty,ps,af,gd⟩).run P w= .ok (.enter f (args.map a.eval).toArray) w:=by
  simp only[execOp,resolve,Act.eval,Deferred.ofValue,Sem.run_bind,Sem.run_pure,Result.andThen_ok,invoke]
  simpa using hent
 rw[hrun,Oper.upon_enter]
 refine hc.mono ?_
 rintro e w' ⟨v,G,bs,rfl,hpast,hG2,hres,hnd,hY⟩
 have hbs:=Dx hres
 have hlab:∀l,nx≤l→l<nx+bs.length→E.r l=none∧rsv l=false:=by
  have himp:=tA (E:=⟨fun o=>bs[o-nx]?,G,G,fun _ _=>False,fun _=>False,fun _=>False⟩) (fun _ h=>h) (fun b _ h=>h) hi hres (fun i p hi=>by simpa using hi)
  intro l h1 h2
  obtain⟨x,hx⟩:=himp.2.2.2 l h1 (by rw[himp.2.1];exact h2)
  exact hfr l x hx
 let E':Env:=⟨fun l=>if nx≤l∧l<nx+bs.length then bs[l-nx]? else E.r l,fun k=>E.F k∨G k,fun k=>E.G k∨G k,E.T,E.Z,E.n⟩
 have hsz:=hpast.size
 have hws:=ok.size
 have hold:∀l p,E.r l=some p→E'.r l=some p:=fun l p h=>by
  show(if nx≤l∧l<nx+bs.length then bs[l-nx]? else E.r l)=some p
  rw[if_neg]
  ·exact h
  ·rintro⟨h1,h2⟩;have:=(hlab l h1 h2).1;rw[this] at h;cases h
 have hnew:∀l b c,E'.r l=some (b,c)→(nx≤l∧l<nx+bs.length∧bs[l-nx]?=some (b,c))∨(E.r l=some (b,c)):=by
  intro l b c h
  have h:(if nx≤l∧l<nx+bs.length then bs[l-nx]? else E.r l)=some (b,c):=h
  split at h
  ·rename_i hh;exact .inl ⟨hh.1,hh.2,h⟩
  ·exact .inr h
 have hheap:∀k,k<w.heap.size→k≠b→w'.heap[k]?=w.heap[k]?:=fun k hk hne=>hpast.block k hk hne
 have hHb:∀g k,E.H g k→k≠b∧k<w.heap.size:=fun g k hk=>⟨fun e=>by subst e;cases g;exact hbF hk;exact hbF (ok.gf _ hk),ok.hb hk⟩
 have ok':cK cx E' w':=by
  refine⟨fun k h=>?_,fun k h=>?_,fun k h=>?_,fun l k c h=>?_,fun l l' k c c' h h'=>?_,by rw[hpast.os];exact ok.os,by rw[hpast.tape];exact ok.tape,by rw[hpast.output];exact ok.output,by omega,fun k h hW=>?_,fun l p hv h=>?_,fun k h=>?_,
   fun k h h'=>h.elim (fun h=>(ok.gc k h h').of_eq (hheap k (hHb false k h).2 (hHb false k h).1)) (fun h=>(hG2 k h).2.2),
   ok.sf.turn hr rfl rfl (fun k h=>h.elim .inl (fun h=>.inr (hG2 k h).1)) (fun l k c h=>by
    rcases hnew l k c h with⟨_,_,h⟩|h
    ·exact .inr (hbs _ (RS h)).1
    ·exact .inl ⟨l,c,h⟩) hsz hheap⟩
  ·rcases h with h|h
   ·have:=ok.fb k h;omega
   ·exact(hG2 k h).2.1
  ·rcases h with h|h
   ·exact .inl (ok.gf k h)
   ·exact .inr h
  ·rcases h with h|h
   ·exact ok.gn k h
   ·have:=hG2 k h;omega
  ·rcases hnew l k c h with⟨_,_,h⟩|h
   ·have:=hbs _ (RS h);exact⟨this.2,.inl (by have:=this.1;simp at this;omega)⟩
   ·have:=ok.rb l k c h;exact⟨by omega,this.2⟩
  ·rcases hnew l k c h with⟨h1,h2,h3⟩|h3<;>rcases hnew l' k c' h' with⟨k1,k2,k3⟩|k3
   ·have hi:l-nx<bs.length:=by omega
    have hj:l'-nx<bs.length:=by omega
    rcases TR (l-nx) (l'-nx) with hlt|heq|hlt
    ·exfalso
     have:=List.pairwise_iff_getElem.1 hnd (l-nx) (l'-nx) (by simpa using hi) (by simpa using hj) hlt
     rw[v0 hi] at h3;rw[v0 hj] at k3
     simp at h3 k3;simp[h3,k3] at this
    ·omega
    ·exfalso
     have:=List.pairwise_iff_getElem.1 hnd (l'-nx) (l-nx) (by simpa using hj) (by simpa using hi) hlt
     rw[v0 hi] at h3;rw[v0 hj] at k3
     simp at h3 k3;simp[h3,k3] at this
   ·have h5:=hbs _ (RS h3);have h6:=ok.rb l' k c' k3;simp at h5;omega
   ·have h5:=hbs _ (RS k3);have h6:=ok.rb l k c h3;simp at h5;omega
   ·exact ok.inj l l' k c c' h3 k3
  ·have hkb:k≠b:=fun e=>by
    subst e
    rcases(ok.rb o k c0 hr).2 with h'|h'
    ·omega
    ·exact hW h'.1
   rw[hheap k (by omega) hkb];exact ok.block k h hW
  ·rcases hnew l p.1 p.2 h with⟨h1,h2,_⟩|h
   ·rw[mX (hlab l h1 h2).2] at hv;cases hv
   ·exact ok.pin l p hv h
  ·rcases h with h|h
   ·exact ok.ff k h
   ·exact .inr (by have:=hG2 k h;omega)
 have himp:=tA (E:=E') (G:=G) (base:=w.heap.size) (fun b h=>.inr h) (fun b hb hng hF=>by
  rcases hF with h|h
  ·have:=ok.fb b h;omega
  ·exact hng h) hi hres (fun i p hi=>by
   have:i<bs.length:=(List.getElem?_eq_some_iff.1 hi).1
   show(if nx≤nx+i∧nx+i<nx+bs.length then bs[nx+i-nx]? else E.r (nx+i))=some p
   rw[if_pos (by omega)];simpa using hi)
 refine⟨v,E',rfl,ok',⟨hold,fun k h=>.inl h,fun k h=>.inl h,fun k h=>h.elim .inl (fun h=>.inr (hG2 k h).1),fun k hk hne=>hheap k hk (fun e=>by subst e;exact hne o y c0 (by simp) hr),fun l ob k c hm hl=>?_,rfl,rfl,rfl⟩,himp.1,fun l x hm=>(himp.2.2.1 l x hm).1,fun l x hm=>?_,fun l p h=>?_⟩
 ·simp at hm;obtain⟨rfl,rfl⟩:=hm;rw[hr] at hl;cases hl;exact hbF
 ·simp at hm;obtain⟨rfl,rfl⟩:=hm
  refine uP hfy (fun k c h=>?_) (fun g k h=>?_) (fun _ _ _=>rfl) (fun _ _ _=>rfl) (fun k c h hn hh=>?_) hY
  ·simp[E1] at h;rw[←h.1,←h.2];exact hold _ _ hr
  ·cases g with
   |false=>
    rcases h with h|h
    ·rcases h with h|⟨l,x,c,h1,h2⟩
     ·exact .inl h
     ·subst hnob;cases h1
    ·exact .inr h
   |true=>exact .inr h
  ·simp[E1] at h;obtain⟨rfl,rfl⟩:=h
   rcases hh with hh|hh
   ·exact hbF hh
   ·have:=hG2 _ hh;omega
 ·rcases hnew l p.1 p.2 h with⟨h1,h2,_⟩|h
  ·obtain⟨x,hx⟩:=himp.2.2.2 l h1 (by rw[himp.2.1];exact h2);exact .inr ⟨x,hx⟩
  ·exact .inl h
end Go.AM
namespace Go.AM
open Go.RowKit
def Ob.hasO (o:Nat):Ob→Bool
 | .var _ cs=>xL o cs
 | .row _ _ _ _ _=>false
 | .rown _ _ _ _=>false
 | .abs _ _=>false
structure oE (up:List (Nat×Ob)) (kl:Option Nat) (E:Env) (w:World) (E':Env) (w':World):Prop where
 r:∀o x,kl≠some o→E.r o=some x→E'.r o=some x
 F:∀b,E.F b→E'.F b
 G:∀b,E.G b→E'.G b
 F':∀b,E'.F b→E.F b∨w.heap.size≤b∨∀l c,kl≠some l→E.r l≠some (b,c)
 heap:∀b,b<w.heap.size→(∀l ob c,(l,ob)∈up→E.r l≠some (b,c))→(∀l c,kl=some l→E.r l≠some (b,c))→w'.heap[b]?=w.heap[b]?
 own:∀l ob b c,(l,ob)∈up→E.r l=some (b,c)→¬E.F b
 ownk:∀l b c,kl=some l→E.r l=some (b,c)→¬E.F b
 T:E'.T=E.T
 Z:E'.Z=E.Z
 n:E'.n=E.n
theorem oE.of_extW {E E':Env} {w w':World} {up:List (Nat×Ob)} (x:JE up E w E' w'):oE up none E w E' w':=
 ⟨fun o y _ h=>x.r o y h,x.F,x.G,(fun b h=>(x.F' b h).elim .inl (fun h=>.inr (.inl h))),fun b h h' _=>x.heap b h h',x.own,(fun _ _ _ h=>by cases h),x.T,x.Z,x.n⟩
section
variable {cx:Cx} {E E':Env} {w w':World} {up:List (Nat×Ob)} {kl:Option Nat}
theorem oE.hF (ok:cK cx E w) (x:oE up kl E w E' w') (b:Nat) (h:E.F b):w'.heap[b]?=w.heap[b]?:=
 x.heap b (ok.fb b h) (fun l ob c hm hr=>x.own l ob b c hm hr h) (fun l c hl hr=>x.ownk l b c hl hr h)
theorem oE.hH (ok:cK cx E w) (x:oE up kl E w E' w') (g:Bool) (b:Nat) (h:E.H g b):w'.heap[b]?=w.heap[b]?:=by
 cases g
 ·exact x.hF ok b h
 ·exact x.hF ok b (ok.gf b h)
theorem oE.H (x:oE up kl E w E' w') (g:Bool) (b:Nat) (h:E.H g b):E'.H g b:=by
 cases g
 ·exact x.F b h
 ·exact x.G b h
theorem oE.hT (ok:cK cx E w) (x:oE up kl E w E' w') (l b:Nat) (h:E.T l b):E'.T l b∧w'.heap[b]?=w.heap[b]?:=
 ⟨by rw[x.T];exact h,x.heap b (ok.sf.tb l b h).1.1 (fun l' ob c _ hr=>(ok.sf.tb l b h).2.2.1 l' c hr) (fun l' c _ hr=>(ok.sf.tb l b h).2.2.1 l' c hr)⟩
theorem oE.hZ (ok:cK cx E w) (x:oE up kl E w E' w') (b:Nat) (h:E.Z b):E'.Z b∧nD w w' b:=
 ⟨by rw[x.Z];exact h,.of_eq (x.heap b (ok.sf.zb b h).1.2.1 (fun l' ob c _ hr=>(ok.sf.zb b h).2.2.1 l' c hr) (fun l' c _ hr=>(ok.sf.zb b h).2.2.1 l' c hr))⟩
theorem oE.keeps (ok:cK cx E w) (x:oE up none E w E' w'):il E w E' w':=⟨fun o y h=>x.r o y (by simp) h,x.H,x.hH ok,x.hT ok,x.hZ ok,x.n⟩
theorem oE.but {o:Nat} (ok:cK cx E w) (x:oE up (some o) E w E' w'):jW o E w E' w':=⟨fun l y hl h=>x.r l y (by simpa using Ne.symm hl) h,x.H,x.hH ok,x.hT ok,x.hZ ok,fun l _=>by rw[x.n]⟩
theorem zj (ok:cK cx E w) (x:oE up kl E w E' w') {t:T} {u:Value} (hf:∀o,kl=some o→t.has o=false) (h:cvT E w t u):cvT E' w' t u:=by
 cases kl with
 |none=>exact ie (x.keeps ok) h
 |some o=>exact CS (x.but ok) (hf o rfl) h
theorem Oe (ok:cK cx E w) (x:oE up kl E w E' w') {cs:List C} {us:List Value} (hf:∀o,kl=some o→xL o cs=false) (h:CV E w cs us):CV E' w' cs us:=by
 cases kl with
 |none=>exact nC (x.keeps ok) h
 |some o=>exact GD (x.but ok) (hf o rfl) h
theorem Hm (ok:cK cx E w) (x:oE up kl E w E' w') {o:Nat} {ob:Ob} (hno:∀ob',(o,ob')∉up) (hk:kl≠some o) (hh:∀d,kl=some d→ob.hasO d=false) (h:co E w o ob):co E' w' o ob:=by
 have hb:∀b c,E.r o=some (b,c)→w'.heap[b]?=w.heap[b]?:=fun b c hr=>
  x.heap b (ok.rb o b c hr).1 (fun l ob' c' hm hr'=>by have:=ok.inj _ _ _ _ _ hr hr';subst this;exact hno _ hm) (fun l c' hl hr'=>by have:=ok.inj _ _ _ _ _ hr hr';subst this;exact hk hl)
 have hF:∀b c,E.r o=some (b,c)→¬E.F b→¬E'.F b:=fun b c hr hn hF=>(x.F' b hF).elim hn (fun h=>h.elim (fun hb=>by have:=(ok.rb o b c hr).1;omega) (fun hb=>hb o c hk hr))
 cases ob with
 |var ty cs=>
  obtain⟨b,c,arr,hr,hh',hc,hf⟩:=h
  exact⟨b,c,arr,x.r _ _ hk hr,(hb b c hr).trans hh',Oe ok x hh hc,hF b c hr hf⟩
 |row ty sz els g m=>
  obtain⟨b,c,arr,hr,hh',h1,h2,h3,h4,h5,h6,h7⟩:=h
  exact⟨b,c,arr,x.r _ _ hk hr,(hb b c hr).trans hh',h1,h2,h3,h4,cd (x.hH ok g) (x.H g) (hb b c hr) _ _ h5,fun hm=>hF b c hr (h6 hm),fun hm=>⟨x.H false b (h7 hm).1,fun hg=>x.H true b ((h7 hm).2 hg)⟩⟩
 |rown ty sz els g=>
  rcases h with⟨h0,h1⟩|⟨h0,b,c,arr,hr,hh',h1,h2,h3,h4,h5,h6⟩
  ·exact .inl ⟨by rw[x.n];exact h0,h1⟩
  ·exact .inr ⟨by rw[x.n];exact h0,b,c,arr,x.r _ _ hk hr,(hb b c hr).trans hh',h1,h2,h3,h4,cd (x.hH ok g) (x.H g) (hb b c hr) _ _ h5,hF b c hr h6⟩
 |abs l y=>
  rcases h with⟨h0,h1⟩|⟨h0,b,c,hr,h1,h2⟩
  ·exact .inl ⟨by rw[x.n];exact h0,h1⟩
  ·exact .inr ⟨by rw[x.n];exact h0,b,c,x.r _ _ hk hr,y.st _ _ _ _ _ _ h1 (fun k hk=>(x.hT ok l k hk).1) (hb b c hr) (fun k hk=>(x.hT ok l k hk).2),hF b c hr h2⟩
end
def AWK (P:Program) (o:Oper) (needs:List (Operand×T)) (nob:List (Nat×Ob)) (out:T) (nw up:List (Nat×Ob)) (kl:Option Nat):Prop:=
 ∀(cx:Cx) (E:Env) (a:Act) (w:World),cK cx E w→(∀x t,(x,t)∈needs→cvT E w t (a.eval x))→(∀l ob,(l,ob)∈nob→co E w l ob)→
  (∀l ob,(l,ob)∈nw→E.r l=none∧rsv l=false)→
  o.wp P a w (fun a' w'=>∃v E',a'=a.put o.dst v∧cK cx E' w'∧oE up kl E w E' w'∧cvT E' w' out v∧(∀l ob,(l,ob)∈nw→co E' w' l ob)∧(∀l ob,(l,ob)∈up→co E' w' l ob)∧
   (∀l x,E'.r l=some x→E.r l=some x∨∃ob,(l,ob)∈nw)) (fun _ _ _=>False)
theorem qw {P:Program} {o:Oper} {needs:List (Operand×T)} {nob:List (Nat×Ob)} {out:T} {nw up:List (Nat×Ob)} (h:AWX P o needs nob out nw up):AWK P o needs nob out nw up none:=by
 intro cx E a w ok hn hb hf
 refine Oper.wp_mono ?_ (h cx E a w ok hn hb hf)
 rintro a' w' ⟨v,E',h1,h2,h3,h4,h5,h6,h7⟩
 exact⟨v,E',h1,h2,.of_extW h3,h4,h5,h6,h7⟩
def On (d:Nat) (ob0:List (Nat×Ob)) (k:Nat):Bool:=d0 k d||match go ob0 k with
 |some x=>x.hasO d
 |none=>false
def zp (d:Nat) (ob0:List (Nat×Ob)):List (Nat×Ob)→Option (List (Nat×Ob))
 |[]=>some []
 |(k,x)::r=>match zp d ob0 r,On d ob0 k with
  |some r',true=>some r'
  |some r',false=>some ((k,x)::r')
  |none,_=>none
def zK:List Nat→List (Nat×T)→List (Nat×Ob)→Option (List (Nat×T)×List (Nat×Ob))
 |[],sl,ob=>some (sl,ob)
 |d::ds,sl,ob=>match lU d sl,zp d ob ob with
  |some sl',some ob'=>zK ds sl' ob'
  |_,_=>none
theorem zr {d:Nat} {ob0:List (Nat×Ob)}:∀{ob ob':List (Nat×Ob)},zp d ob0 ob=some ob'→∀{l:Nat} {x:Ob},go ob' l=some x→On d ob0 l=false∧go ob l=some x
 |[],ob',h,l,x,hl=>by simp[zp] at h;subst h;cases hl
 |(k,y)::r,ob',h,l,x,hl=>by
  simp only[zp] at h
  cases h1:zp d ob0 r with
  |none=>simp[h1] at h
  |some r'=>
   cases h2:On d ob0 k with
   |true=>
    simp[h1,h2] at h;subst h
    have ih:=zr h1 hl
    refine⟨ih.1,?_⟩
    rw[bu _ _ (fun e=>by subst e;rw[h2] at ih;cases ih.1)];exact ih.2
   |false=>
    simp[h1,h2] at h;subst h
    by_cases hk:k=l
    ·subst hk;rw[b8] at hl ⊢;cases hl;exact⟨h2,rfl⟩
    ·rw[bu _ _ hk] at hl ⊢;exact zr h1 hl
theorem Fh:∀{ds:List Nat} {sl sl':List (Nat×T)} {ob ob':List (Nat×Ob)},zK ds sl ob=some (sl',ob')→
 (∀k,gt sl' k= .any∨(gt sl' k=gt sl k∧∀d∈ds,(gt sl k).has d=false))∧(∀l x,go ob' l=some x→go ob l=some x∧∀d∈ds,l≠d∧x.hasO d=false)
 |[],sl,sl',ob,ob',h=>by
  simp[zK] at h;obtain⟨rfl,rfl⟩:=h
  exact⟨fun k=>.inr ⟨rfl,by simp⟩,fun l x h=>⟨h,by simp⟩⟩
 |d::ds,sl,sl',ob,ob',h=>by
  simp only[zK] at h
  cases h1:lU d sl with
  |none=>simp[h1] at h
  |some sl1=>
   cases h2:zp d ob ob with
   |none=>simp[h1,h2] at h
   |some ob1=>
    simp only[h1,h2] at h
    obtain⟨i1,i2⟩:=Fh h
    refine⟨fun k=>?_,fun l x hl=>?_⟩
    ·rcases i1 k with e|⟨e1,e2⟩
     ·exact .inl e
     ·rcases sx h1 k with e|⟨e3,e4⟩
      ·exact .inl (by rw[e1,e])
      ·refine .inr ⟨by rw[e1,e3],fun d' hd'=>?_⟩
       rcases List.mem_cons.1 hd' with rfl|hd'
       ·exact e4
       ·rw[←e3];exact e2 d' hd'
    ·obtain⟨e1,e2⟩:=i2 l x hl
     obtain⟨e3,e4⟩:=zr h2 e1
     refine⟨e4,fun d' hd'=>?_⟩
     rcases List.mem_cons.1 hd' with rfl|hd'
     ·simp only[On,e4,SX] at e3
      exact⟨gp e3.1,e3.2⟩
     ·exact e2 d' hd'
end Go.AM
namespace Go.AM
open Go.RowKit
structure Inx where
 x:Inf
 up:List (Nat×Ob)
 kl:Option Nat
def LL (N:Nat) (o:Oper) (x:Inf):Prop:=(o.dst=some x.d∧x.d<N)∨(o.dst=none∧N≤x.d∧x.out= .any)
def NX (P:Program) (N:Nat) (o:Oper) (st st':St) (y:Inx):Prop:=
 AWK P o y.x.needs y.x.nob y.x.out y.x.nw y.up y.kl∧LL N o y.x∧Lk st.sl y.x.needs∧Lo st.ob y.x.nob∧Nw st.nx y.x.nw st'.nx∧st'=⟨(y.x.d,y.x.out)::st.sl,y.x.nw++(y.up++st.ob),st'.nx⟩
theorem Fv {P:Program} {N:Nat} {o:Oper} {st st':St} {x:Inf} (h:NS P N o st st' x):NX P N o st st' ⟨x,[],none⟩:=by
 obtain⟨h1,h2,h3,h4,h5,h6,h7⟩:=h
 exact⟨qw (y7 h1),.inl ⟨h2,h3⟩,h4,h5,h6,h7⟩
def DS2 (P:Program) (N:Nat) (ops:Array Oper) (o:Oper) (st st':St) (y:Inx):Prop:=
 (o.guard=none∧NX P N o st st' y)∨
 (∃j dj b z,o.guard=some (j,b)∧(ops[j]?).bind (·.dst)=some dj∧dj<N∧gt st.sl dj=tB b∧NX P N o st st' z∧y=⟨{z.x with needs:=(.tmp dj,tB b)::z.x.needs},z.up,z.kl⟩)∨
 (∃j dj b d,o.guard=some (j,b)∧(ops[j]?).bind (·.dst)=some dj∧dj<N∧noG b (gt st.sl dj)=true∧o.dst=some d∧d<N∧y=⟨⟨d,[(.tmp dj,gt st.sl dj)],[],.tup [],[]⟩,[],none⟩∧st'=⟨(d,.tup [])::st.sl,st.ob,st.nx⟩)
def obF (p:Nat→Bool):Nat→List Inx→List (Nat×Ob)→List (Nat×Ob)
 |_,[],acc=>acc
 |k,y::ys,acc=>obF p (k+1) ys (if p k then y.x.nw++(y.up++acc) else acc)
def ml (y:Inx) (l:Nat):Bool:=(y.x.nw.any fun p=>d0 p.1 l)||(y.up.any fun p=>d0 p.1 l)
theorem vB {A B:List (Nat×Ob)} {l:Nat} (h:(A.any fun p=>d0 p.1 l)=false):go (A++B) l=go B l:=by
 induction A with
 |nil=>rfl
 |cons p A ih=>
  simp only[T0,SX] at h
  obtain⟨k,v⟩:=p
  rw[Sm,go,h.1]
  exact ih h.2
theorem tz {A B:List (Nat×Ob)} {l:Nat} (h:(A.any fun p=>d0 p.1 l)=true):go (A++B) l=go A l:=by
 induction A with
 |nil=>simp at h
 |cons p A ih=>
  obtain⟨k,v⟩:=p
  rw[Sm,go,go]
  cases hk:d0 k l with
  |true=>rfl
  |false=>
   simp only[T0,hk,TL] at h
   exact ih h
theorem ny {p q:Nat→Bool} {l:Nat}:∀{ys:List Inx} {k:Nat} {A B:List (Nat×Ob)},go A l=go B l→(∀j y,ys[j]?=some y→ml y l=true→p (k+j)=q (k+j))→go (obF p k ys A) l=go (obF q k ys B) l
 |[],_,_,_,h,_=>h
 |y::ys,k,A,B,h,ht=>by
  simp only[obF]
  refine ny ?_ (fun j z hz hj=>by have:=ht (j+1) z (by simpa using hz) hj;rwa [show k+(j+1)=k+1+j from by omega] at this)
  cases hto:ml y l with
  |true=>
   have h0:=ht 0 y rfl hto
   rw[SC] at h0
   rw[h0]
   split
   ·by_cases hn:(y.x.nw.any fun p=>d0 p.1 l)=true
    ·rw[tz hn,tz hn]
    ·rw[vB (A:=y.x.nw) (Bool.eq_false_iff.2 hn),vB (A:=y.x.nw) (Bool.eq_false_iff.2 hn)]
     have hu:(y.up.any fun p=>d0 p.1 l)=true:=by simp only[ml,SU] at hto;exact hto.resolve_left hn
     rw[tz hu,tz hu]
   ·exact h
  |false=>
   simp only[ml,SX] at hto
   have e:∀X:List (Nat×Ob),go (y.x.nw++(y.up++X)) l=go X l:=fun X=>by rw[vB hto.1,vB hto.2]
   split<;>split<;>(try simp only[e])<;>exact h
theorem zW {p:Nat→Bool} {y:Inx}:∀{ys:List Inx} {k:Nat} {A:List (Nat×Ob)},obF p k (ys++[y]) A=if p (k+ys.length) then y.x.nw++(y.up++obF p k ys A) else obF p k ys A
 |[],k,A=>by simp[obF]
 |z::ys,k,A=>by
  simp only[Sm,obF,SQ]
  rw[zW,show k+1+ys.length=k+(ys.length+1) from by omega]
theorem sC {p:Nat→Bool}:∀{ys:List Inx} {k n:Nat} {A:List (Nat×Ob)},(∀j,p (k+j)=decide (j<n))→obF p k ys A=obF (fun _=>true) k (ys.take n) A
 |[],k,n,A,_=>by simp[obF]
 |y::ys,k,0,A,h=>by
  have h0:=h 0
  simp at h0
  simp only[obF,List.take_zero,h0]
  have:=sC (p:=p) (ys:=ys) (k:=k+1) (n:=0) (A:=A) (fun j=>by have:=h (j+1);simp at this ⊢;rwa [show k+(j+1)=k+1+j from by omega] at this)
  simpa [obF] using this
 |y::ys,k,n+1,A,h=>by
  have h0:=h 0
  simp at h0
  simp only[obF,Ss,h0,if_true]
  exact sC (fun j=>by have:=h (j+1);rw[show k+1+j=k+(j+1) from by omega,this];simp)
def obX (base:St) (ys:List Inx):List (Nat×Ob):=obF (fun _=>true) 0 ys base.ob
theorem MK (base:St) (ys:List Inx) (y:Inx):obX base (ys++[y])=y.x.nw++(y.up++obX base ys):=by simp[obX,zW]
def fk (ys:List Inx):List Inf:=ys.map (·.x)
def K8 (P:Program) (N:Nat) (ops:Array Oper) (base:St) (pre:List Inx) (o:Oper) (y:Inx):Prop:=
 (∀z t,(z,t)∈y.x.needs→opT (qm base (fk pre)) z=t)∧(∀l ob,(l,ob)∈y.x.nob→go (obX base pre) l=some ob)∧LL N o y.x∧
 ((o.guard=none∧AWK P o y.x.needs y.x.nob y.x.out y.x.nw y.up y.kl)∨
  (∃j dj b ys,o.guard=some (j,b)∧(ops[j]?).bind (·.dst)=some dj∧dj<N∧y.x.needs=(.tmp dj,tB b)::ys∧AWK P o ys y.x.nob y.x.out y.x.nw y.up y.kl)∨
  (∃j dj b t,o.guard=some (j,b)∧(ops[j]?).bind (·.dst)=some dj∧dj<N∧y.x.needs=[(.tmp dj,t)]∧noG b t=true∧y.x.out= .tup []∧y.x.nw=[]∧y.up=[]∧y.kl=none))
theorem KU {P:Program} {N:Nat} {ops:Array Oper} {base st st1 st2:St} {ys:List Inx} {o:Oper} {y:Inx} (hds:DS2 P N ops o st st1 y) (hsame:tY st1 st2) (h1:∀k,gt st.sl k=gt (qm base (fk ys)) k) (h2:st.ob=obX base ys) (h3:em base.nx (fk ys) st.nx):
 K8 P N ops base ys o y∧(∀k,gt st2.sl k=gt (qm base (fk (ys++[y]))) k)∧st2.ob=obX base (ys++[y])∧em base.nx (fk (ys++[y])) st2.nx:=by
 have hput:∀(out:T) (nw up:List (Nat×Ob)) (n:Nat),y.x.out=out→y.x.nw=nw→y.up=up→st1=⟨(y.x.d,out)::st.sl,nw++(up++st.ob),n⟩→Nw st.nx nw n→(∀k,gt st2.sl k=gt (qm base (fk (ys++[y]))) k)∧st2.ob=obX base (ys++[y])∧em base.nx (fk (ys++[y])) st2.nx:=by
  rintro out nw up n rfl rfl rfl rfl hnw
  refine⟨fun k=>?_,?_,?_⟩
  ·rw[←hsame.1 k];simp only[fk,TJ,TI,TN];rw[tT]
   by_cases hk:y.x.d=k
   ·rw[hk,dJ,dJ]
   ·rw[cN _ _ hk,cN _ _ hk];exact h1 k
  ·rw[←hsame.2.1,MK,h2]
  ·rw[←hsame.2.2];simp only[fk,TJ,TI,TN];exact h3.snoc hnw
 rcases hds with⟨hg,k1,k2,k4,k5,k6,k7⟩|⟨j,dj,b,z,hg,hj,hdj,hb,⟨k1,k2,k4,k5,k6,k7⟩,rfl⟩|⟨j,dj,b,d,hg,hj,hdj,hb,hd,hN,rfl,rfl⟩
 ·exact⟨⟨fun z t hm=>by rw[←nV h1];exact Lk.mem k4 z t hm,fun l' ob hm=>by rw[←h2];exact Lo.mem k5 l' ob hm,k2,.inl ⟨hg,k1⟩⟩,hput _ _ _ _ rfl rfl rfl k7 k6⟩
 ·refine⟨⟨fun y' t hm=>?_,fun l' ob hm=>by rw[←h2];exact Lo.mem k5 l' ob hm,k2,.inr (.inl ⟨j,dj,b,z.x.needs,hg,hj,hdj,rfl,k1⟩)⟩,hput _ _ _ _ rfl rfl rfl k7 k6⟩
  rw[←nV h1]
  rcases List.mem_cons.1 hm with e|hm
  ·cases e;exact hb
  ·exact Lk.mem k4 y' t hm
 ·refine⟨⟨fun y' t hm=>?_,by simp,.inl ⟨hd,hN⟩,.inr (.inr ⟨j,dj,b,_,hg,hj,hdj,rfl,hb,rfl,rfl,rfl,rfl⟩)⟩,hput (.tup []) [] [] st.nx rfl rfl rfl rfl rfl⟩
  rw[←nV h1]
  simp at hm;obtain⟨rfl,rfl⟩:=hm;rfl
def pF (y:Inx):List Nat:=y.x.nob.map (·.1)++(y.x.nw.map (·.1)++y.up.map (·.1))
def CX (ops:Array Oper):Bool:=
 (SO ops.size).all fun i=>match ops[i]? with
  |some o=>o.after.toList.all fun e=>!Region.binds .any e||nlt e.on i
  |none=>false
def pH (l:List Nat) (n:Nat):Bool:=l.any fun k=>d0 k n
def at0 (seg:List Nat) (j:Nat):Nat:=seg.getD j 0
def vc (y:Inx) (d:Nat):Bool:=(y.x.needs.any fun p=>p.2.has d)||pH (pF y) d||(y.x.nob.any fun p=>p.2.hasO d)
def QJ (ops:Array Oper) (seg:List Nat) (ys:List Inx):Bool:=
 (SO ys.length).all fun j=>match ys[j]? with
  |some z=>match z.kl with
   |none=>true
   |some d=>(SO ys.length).all fun i=>match ys[i]? with
    |some y=>d0 i j||!vc y d||anc ops ops.size (at0 seg j) (at0 seg i)
    |none=>false
  |none=>false
def wk (ops:Array Oper) (done seg:List Nat) (ys:List Inx):Bool:=
 nL (fk ys)&&d0 seg.length ys.length&&lp (seg++done)&&(seg.all fun i=>nlt i ops.size)&&
 ((SO ys.length).all fun i=>match ys[i]? with
  |some y=>
   ((gv y.x.needs).all fun k=>match pN (fk ys) k with
    |none=>true
    |some j=>if nlt j i then anc ops ops.size (at0 seg i) (at0 seg j) else d0 i j||anc ops ops.size (at0 seg j) (at0 seg i))&&
   ((pF y).all fun l=>(SO ys.length).all fun j=>match ys[j]? with
    |some z=>!ml z l||(if nlt j i then anc ops ops.size (at0 seg i) (at0 seg j) else d0 i j||anc ops ops.size (at0 seg j) (at0 seg i))
    |none=>false)
  |none=>false)&&
 ((SO ops.size).all fun j=>pH done j||pH seg j||seg.all fun i=>anc ops ops.size j i)&&QJ ops seg ys
def A3 (f:Nat→Nat) (ys:List Inx) (listed:Array Bool) (d:Nat):Prop:=∃j y,listed.getD (f j) false=true∧ys[j]?=some y∧y.kl=some d
structure JF (N:Nat) (cx:Cx) (base:St) (f:Nat→Nat) (ys:List Inx) (listed:Array Bool) (a:Act) (w:World) (E:Env):Prop where
 ok:cK cx E w
 dom:∀l x,E.r l=some x→l<base.nx∨∃j y ob,listed.getD (f j) false=true∧ys[j]?=some y∧(l,ob)∈y.x.nw
 obs:∀l ob,go (obF (fun j=>listed.getD (f j) false) 0 ys base.ob) l=some ob→(∀d,A3 f ys listed d→l≠d∧ob.hasO d=false)→co E w l ob
 out:∀j y,listed.getD (f j) false=true→ys[j]?=some y→(∀d,A3 f ys listed d→y.x.out.has d=false)→cvT E w y.x.out (a.tmps.getD y.x.d undef)
 old:∀k,(∀j y,listed.getD (f j) false=true→ys[j]?=some y→y.x.d≠k)→(∀d,A3 f ys listed d→(gt base.sl k).has d=false)→cvT E w (gt base.sl k) (a.tmps.getD k undef)
 dfr:a.defers=[]
 size:a.tmps.size=N
 td:∀l b,E.T l b→l<base.nx
theorem J5 {y:Inx} {l:Nat} (h:ml y l=true) {X:List (Nat×Ob)} {ob:Ob} (hg:go (y.x.nw++(y.up++X)) l=some ob):(l,ob)∈y.x.nw∨(l,ob)∈y.up:=by
 by_cases hn:(y.x.nw.any fun p=>d0 p.1 l)=true
 ·rw[tz hn] at hg;exact .inl (uJ hg)
 ·have hu:(y.up.any fun p=>d0 p.1 l)=true:=by simp only[ml,SU] at h;exact h.resolve_left hn
  rw[vB (Bool.eq_false_iff.2 hn),tz hu] at hg;exact .inr (uJ hg)
theorem NJ {y:Inx} {l:Nat} {ob:Ob} (h:(l,ob)∈y.up):ml y l=true:=by
 simp only[ml,SU,TO]
 exact .inr ⟨(l,ob),h,by simp⟩
theorem HP {y:Inx} {l:Nat} (h:ml y l=true):l∈pF y:=by
 simp only[ml,SU,TO] at h
 simp only[pF,TG,TM]
 rcases h with⟨p,h1,h2⟩|⟨p,h1,h2⟩
 ·exact .inr (.inl ⟨p,h1,RU h2⟩)
 ·exact .inr (.inr ⟨p,h1,RU h2⟩)
section
variable {P:Program} {N:Nat} {cx:Cx} {ops:Array Oper} {base:St} {f:Nat→Nat} {ys:List Inx} {Q:Exit→Act→World→Prop}
def unl (ops:Array Oper) (listed:Array Bool):Nat:=((SO ops.size).filter fun i=>!listed.getD i false).length
def rK (ops:Array Oper) (listed:Array Bool):Prop:=∀i o,ops[i]?=some o→listed.getD i false=true→∀e∈o.after,Region.binds .any e=true→listed.getD e.on false=true
theorem oy {listed:Array Bool} {i:Nat} (hsz:listed.size=ops.size) (hio:i<ops.size) (hun:listed.getD i false=false):unl ops listed=unl ops (listed.setIfInBounds i true)+1:=by
 have hcount:∀(l:List Nat),l.Nodup→i∈l→(l.filter fun k=>!listed.getD k false).length=(l.filter fun k=>!(listed.setIfInBounds i true).getD k false).length+1:=by
  intro l
  induction l with
  |nil=>intro _ h;cases h
  |cons k l ihl=>
   intro hnd hm
   obtain⟨hk1,hk2⟩:=List.nodup_cons.1 hnd
   by_cases hki:i=k
   ·subst hki
    have hsame:(l.filter fun k=>!listed.getD k false)=(l.filter fun k=>!(listed.setIfInBounds i true).getD k false):=by
     apply TW
     intro z hz
     rw[bW (by omega),if_neg (fun e=>hk1 (by rw[e];exact hz))]
    rw[Ti (by simp only[Tc];exact hun),Tj (by rw[bW (by omega),if_pos rfl];simp),hsame,SQ]
   ·have hml:i∈l:=by rcases List.mem_cons.1 hm with e|e;exact absurd e hki;exact e
    have:=ihl hk2 hml
    have hgk:(listed.setIfInBounds i true).getD k false=listed.getD k false:=by rw[bW (by omega),if_neg hki]
    cases hgd:listed.getD k false with
    |true=>rw[Tj (by simp only[hgd];simp),Tj (by simp only[hgk,hgd];simp)];exact this
    |false=>rw[Ti (by simp only[hgd];simp),Ti (by simp only[hgk,hgd];simp),SQ,SQ,this]
 exact hcount (SO ops.size) TX (by simpa using hio)
theorem rS {listed:Array Bool} {i:Nat} {o:Oper} (hsz:listed.size=ops.size) (hio:i<ops.size) (ho:ops[i]?=some o) (hd:∀e∈o.after,Region.binds .any e=true→listed.getD e.on false=true) (hcl:rK ops listed):rK ops (listed.setIfInBounds i true):=by
 intro j oj hj hdj e he hb
 rw[bW (by omega)]
 split
 ·rfl
 ·rw[bW (by omega)] at hdj
  split at hdj
  ·rename_i hij;subst hij;rw[ho] at hj;cases hj;exact hd e he hb
  ·exact hcl j oj hj hdj e he hb
def Edg (ops:Array Oper) (rk:Nat→Nat):Prop:=∀i o,ops[i]?=some o→∀e∈o.after,Region.binds .any e=true→e.on<ops.size∧rk e.on<rk i
theorem LP {ops:Array Oper} (hedge:∀i o,ops[i]?=some o→∀e∈o.after,Region.binds .any e=true→e.on<i):Edg ops (fun i=>i):=fun i o ho e he hb=>by
 have h:=hedge i o ho e he hb
 have hi:i<ops.size:=by
  rcases SV i ops.size with h|h
  ·exact h
  ·rw[SY h] at ho;cases ho
 exact⟨by omega,h⟩
theorem z0 {listed:Array Bool} {rk:Nat→Nat} (hedge:Edg ops rk) (hsz:listed.size=ops.size) {n:Nat} (hc:unl ops listed=n+1):Region.ready .any ops listed≠[]:=by
 intro h0
 have hex:∃i,i<ops.size∧listed.getD i false=false:=by
  have:((SO ops.size).filter fun i=>!listed.getD i false)≠[]:=fun e=>by unfold unl at hc;rw[e] at hc;simp at hc
  obtain⟨i,hi⟩:=TU _ this
  simp only[TS,TY,Tc] at hi
  exact⟨i,hi.1,hi.2⟩
 have hmin:∀n i,rk i≤n→i<ops.size→listed.getD i false=false→∃i,i∈Region.ready .any ops listed:=by
  intro n
  induction n using Nat.strongRecOn with
  |_ n ihn=>
   intro i hin his hif
   by_cases hd:∀e∈ops[i].after,Region.binds .any e=true→listed.getD e.on false=true
   ·refine⟨i,mem_ready.2 ⟨?_,ops[i],Sj his,hd⟩⟩
    rw[Td,Sj (by omega)] at hif ⊢
    simpa using hif
   ·simp only[Classical.not_forall] at hd
    obtain⟨e,he,hb,hne⟩:=hd
    have hlt:=hedge i ops[i] (Sj his) e he hb
    exact ihn (rk e.on) (by omega) e.on (RX _) hlt.1 (by simpa using hne)
 obtain⟨i,h1,h2⟩:=hex
 obtain⟨j,hj⟩:=hmin (rk i) i (RX _) h1 h2
 rw[h0] at hj;cases hj
theorem ji {listed:Array Bool} (hsz:listed.size=ops.size) {i:Nat} (hi:i∈Region.ready .any ops listed):i<ops.size∧listed.getD i false=false∧∃o,ops[i]?=some o∧∀e∈o.after,Region.binds .any e=true→listed.getD e.on false=true:=by
 obtain⟨h1,o,ho,hd⟩:=mem_ready.1 hi
 have hio:i<ops.size:=by
  rcases SV i ops.size with h|h
  ·exact h
  ·rw[SY h] at ho;cases ho
 refine⟨hio,?_,o,ho,hd⟩
 rw[Td,Sj (by omega)] at h1 ⊢
 simpa using h1
theorem uE {listed:Array Bool} (hcl:rK ops listed) {n i j:Nat} (h:anc ops n i j=true) (hi:∃o,ops[i]?=some o∧∀e∈o.after,Region.binds .any e=true→listed.getD e.on false=true):listed.getD j false=true:=nE hcl n i j h hi
theorem En {listed:Array Bool} (hsz:listed.size=ops.size) (hcl:rK ops listed) {n i j:Nat} (h:anc ops n i j=true) (hi:listed.getD i false=true):listed.getD j false=true:=by
 have his:i<ops.size:=by
  rcases SV i ops.size with h|h
  ·exact h
  ·rw[Td,SY (by omega)] at hi;cases hi
 exact nE hcl n i j h ⟨ops[i],Sj his,hcl i _ (Sj his) hi⟩
theorem I4 {o:Oper} {x:Inf} {a:Act} (h:LL N o x) (hs:a.tmps.size=N) (v:Value):a.put o.dst v=a.put (some x.d) v:=by
 rcases h with⟨h,_⟩|⟨h,h2,_⟩
 ·rw[h]
 ·rw[h]
  show a=a.put (some x.d) v
  unfold Act.put
  simp only
  rw[show a.tmps.setIfInBounds x.d v=a.tmps from TZ (by omega)]
theorem E8 {a:Act} {d k:Nat} {v:Value} (h:a.tmps.size≤d):(a.put (some d) v).tmps.getD k undef=a.tmps.getD k undef:=by
 unfold Act.put
 simp only
 rw[show a.tmps.setIfInBounds d v=a.tmps from TZ h]
theorem J1 {listed:Array Bool} {a:Act} {w:World} {E:Env} (hI:JF N cx base f ys listed a w E) (hdst:nL (fk ys)=true) {i:Nat} {y:Inx} (hx:ys[i]?=some y) (hil:f i<listed.size) (hinj:∀j,j<ys.length→f i=f j→i=j)
 (hun:listed.getD (f i) false=false) (hdN:y.x.d<N∨(N≤y.x.d∧y.x.out= .any)) (hord:∀l,ml y l=true→∀j z,ys[j]?=some z→ml z l=true→listed.getD (f j) false=decide (j<i))
 {v:Value} {E':Env} {w':World} (ok':cK cx E' w') (ext:oE y.up y.kl E w E' w') (hv:cvT E' w' y.x.out v) (hnw:∀l ob,(l,ob)∈y.x.nw→co E' w' l ob) (hup:∀l ob,(l,ob)∈y.up→co E' w' l ob)
 (hdom:∀l x,E'.r l=some x→E.r l=some x∨∃ob,(l,ob)∈y.x.nw):JF N cx base f ys (listed.setIfInBounds (f i) true) (a.put (some y.x.d) v) w' E':=by
 have hD:∀d,A3 f ys listed d→A3 f ys (listed.setIfInBounds (f i) true) d:=fun d ⟨j,z,h1,h2,h3⟩=>⟨j,z,by
  rw[bW hil];split
  ·rfl
  ·exact h1,h2,h3⟩
 have hDi:∀d,y.kl=some d→A3 f ys (listed.setIfInBounds (f i) true) d:=fun d h=>⟨i,y,by rw[bW hil,if_pos rfl],hx,h⟩
 have hgx:∀(j:Nat) (z:Inx),ys[j]?=some z→(fk ys)[j]?=some z.x:=fun j z h=>by simp[fk,h]
 have hd':∀j z,ys[j]?=some z→j≠i→z.x.d≠y.x.d:=fun j z hj hne he=>hne (nM hdst j i z.x y.x (hgx j z hj) (hgx i y hx) he)
 have hlt:i<ys.length:=(List.getElem?_eq_some_iff.1 hx).1
 refine⟨ok',fun l p hl=>?_,fun l ob hl hdd=>?_,fun j z hj hz hdd=>?_,fun k hkk hdd=>?_,hI.dfr,by simpa [Act.put] using hI.size,fun l b h=>hI.td l b (by rw[←ext.T];exact h)⟩
 ·rcases hdom l p hl with h|⟨ob,h⟩
  ·rcases hI.dom l p h with h|⟨j,z,ob,h1,h2,h3⟩
   ·exact .inl h
   ·refine .inr ⟨j,z,ob,?_,h2,h3⟩
    rw[bW hil];split
    ·rfl
    ·exact h1
  ·exact .inr ⟨i,y,ob,by rw[bW hil,if_pos rfl],hx,h⟩
 ·cases hto:ml y l with
  |true=>
   rw[ny (q:=fun j=>decide (j<i+1)) (B:=base.ob) rfl (fun j z hz hj=>by
    simp only[R9]
    rw[bW hil]
    by_cases hji:f i=f j
    ·rw[if_pos hji];have:i=j:=hinj j (List.getElem?_eq_some_iff.1 hz).1 hji
     subst this;simp
    ·rw[if_neg hji,hord l hto j z hz hj]
     have:i≠j:=fun e=>hji (by rw[e])
     simp only[decide_eq_decide];omega),sC (n:=i+1) (fun j=>by simp),List.take_add_one,hx] at hl
   simp only[Option.toList_some] at hl
   rw[zW,if_pos rfl] at hl
   rcases J5 hto hl with h|h
   ·exact hnw l ob h
   ·exact hup l ob h
  |false=>
   rw[ny (q:=fun j=>listed.getD (f j) false) (B:=base.ob) rfl (fun j z hz hj=>by
    simp only[R9]
    rw[bW hil,if_neg]
    intro e
    have:i=j:=hinj j (List.getElem?_eq_some_iff.1 hz).1 e
    subst this;rw[hx] at hz;cases hz;rw[hto] at hj;cases hj)] at hl
   refine Hm hI.ok ext (fun ob' hm=>?_) (fun e=>(hdd l (hDi l e)).1 rfl) (fun d hd=>(hdd d (hDi d hd)).2) (hI.obs l ob hl (fun d hd=>hdd d (hD d hd)))
   rw[NJ hm] at hto;cases hto
 ·by_cases hji:i=j
  ·subst hji;rw[hx] at hz;cases hz
   rcases hdN with hdN|⟨_,ho⟩
   ·rw[f8 (by rw[hI.size];exact hdN),if_pos rfl];exact hv
   ·rw[ho];trivial
  ·rw[bW hil,if_neg (fun e=>hji (hinj j (List.getElem?_eq_some_iff.1 hz).1 e))] at hj
   rcases hdN with hdN|⟨hdN,_⟩
   ·rw[f8 (by rw[hI.size];exact hdN),if_neg (Ne.symm (hd' j z hz (Ne.symm hji)))]
    exact zj hI.ok ext (fun d hd=>hdd d (hDi d hd)) (hI.out j z hj hz (fun d hd=>hdd d (hD d hd)))
   ·rw[E8 (by rw[hI.size];exact hdN)]
    exact zj hI.ok ext (fun d hd=>hdd d (hDi d hd)) (hI.out j z hj hz (fun d hd=>hdd d (hD d hd)))
 ·have hxk:y.x.d≠k:=hkk i y (by rw[bW hil,if_pos rfl]) hx
  have hpp:(a.put (some y.x.d) v).tmps.getD k undef=a.tmps.getD k undef:=by
   rcases hdN with hdN|⟨hdN,_⟩
   ·rw[f8 (by rw[hI.size];exact hdN),if_neg hxk]
   ·exact E8 (by rw[hI.size];exact hdN)
  rw[hpp]
  refine zj hI.ok ext (fun d hd=>hdd d (hDi d hd)) (hI.old k (fun j z hj hz=>hkk j z ?_ hz) (fun d hd=>hdd d (hD d hd)))
  rw[bW hil];split
  ·rfl
  ·exact hj
theorem Cy {done:Nat→Bool} {rk:Nat→Nat} (hedge:Edg ops rk) (hhi:∀i,i<ys.length→f i<ops.size) (hinj:∀i j,i<ys.length→j<ys.length→f i=f j→i=j) (hdis:∀i,i<ys.length→done (f i)=false) {nmax:Nat} (hlab:em base.nx (fk ys) nmax) (hdst:nL (fk ys)=true)
 (hslot:∀i y,ys[i]?=some y→∀k∈gv y.x.needs,∀j,pN (fk ys) k=some j→if nlt j i then anc ops ops.size (f i) (f j)=true else(i=j∨anc ops ops.size (f j) (f i)=true))
 (hobj:∀i y,ys[i]?=some y→∀l∈pF y,∀j z,ys[j]?=some z→ml z l=true→if nlt j i then anc ops ops.size (f i) (f j)=true else(i=j∨anc ops ops.size (f j) (f i)=true))
 (hkill:∀j z d,ys[j]?=some z→z.kl=some d→∀i y,ys[i]?=some y→i≠j→vc y d=true→anc ops ops.size (f j) (f i)=true)
 (htail:∀j,j<ops.size→done j=false→(∀i,i<ys.length→f i≠j)→∀i,i<ys.length→anc ops ops.size j (f i)=true)
 (htold:∀(i:Nat) (o:Oper) (y:Inx),ops[f i]?=some o→ys[i]?=some y→K8 P N ops base (ys.take i) o y)
 (hfin:∀(listed:Array Bool) a w E,listed.size=ops.size→rK ops listed→(∀j,done j=true→listed.getD j false=true)→(∀i,i<ys.length→listed.getD (f i) false=true)→(∀j,done j=false→(∀i,i<ys.length→f i≠j)→listed.getD j false=false)→JF N cx base f ys listed a w E→wpAny P .any ops Q (unl ops listed) listed a w):
 ∀(m:Nat) (listed:Array Bool) (a:Act) (w:World) (E:Env),((SO ys.length).filter fun i=>!listed.getD (f i) false).length=m→listed.size=ops.size→rK ops listed→
  (∀j,done j=true→listed.getD j false=true)→(∀j,done j=false→(∀i,i<ys.length→f i≠j)→listed.getD j false=false)→JF N cx base f ys listed a w E→wpAny P .any ops Q (unl ops listed) listed a w:=by
 intro m
 induction m with
 |zero=>
  intro listed a w E hm hsz hcl hpre hpost hI
  refine hfin listed a w E hsz hcl hpre (fun i hi=>?_) hpost hI
  have:=List.filter_eq_nil_iff.1 (List.eq_nil_of_length_eq_zero hm) i (by simpa using hi)
  simpa using this
 |succ m ih=>
  intro listed a w E hm hsz hcl hpre hpost hI
  obtain⟨i0,hi0,hu0⟩:∃i,i<ys.length∧listed.getD (f i) false=false:=by
   have:((SO ys.length).filter fun i=>!listed.getD (f i) false)≠[]:=fun e=>by rw[e] at hm;simp at hm
   obtain⟨i,hi⟩:=TU _ this
   simp only[TS,TY,Tc] at hi
   exact⟨i,hi.1,hi.2⟩
  have hus:=oy (ops:=ops) hsz (hhi i0 hi0) hu0
  rw[hus]
  refine⟨fun h0=>absurd h0 (z0 hedge hsz hus),fun p hp=>?_⟩
  obtain⟨hio,hun,o,ho,hd⟩:=ji hsz hp
  have hdp:done p=false:=by
   cases h:done p with
   |false=>rfl
   |true=>rw[hpre p h] at hun;cases hun
  obtain⟨i,hil,rfl⟩:∃i,i<ys.length∧p=f i:=by
   apply Classical.byContradiction
   intro hno
   have hno':∀i,i<ys.length→f i≠p:=fun i hi e=>hno ⟨i,hi,e.symm⟩
   have:=uE hcl (htail p hio hdp hno' i0 hi0) ⟨o,ho,hd⟩
   rw[this] at hu0;cases hu0
  obtain⟨y,hx⟩:∃y,ys[i]?=some y:=⟨_,v0 hil⟩
  have hus':unl ops (listed.setIfInBounds (f i0) true)=unl ops (listed.setIfInBounds (f i) true):=by
   have:=oy (ops:=ops) hsz hio hun;omega
  rw[hus']
  obtain⟨t1,t2,t3,t5⟩:=htold i o y ho hx
  have t4:y.x.d<N∨(N≤y.x.d∧y.x.out= .any):=t3.imp (·.2) (·.2)
  have hanc:∀j,anc ops ops.size (f i) (f j)=true→listed.getD (f j) false=true:=fun j h=>uE hcl h ⟨o,ho,hd⟩
  have hanc':∀j,anc ops ops.size (f j) (f i)=true→listed.getD (f j) false=false:=fun j h=>by
   cases hj:listed.getD (f j) false with
   |false=>rfl
   |true=>rw[En hsz hcl h hj] at hun;cases hun
  have hord:∀l∈pF y,∀j z,ys[j]?=some z→ml z l=true→listed.getD (f j) false=decide (j<i):=by
   intro l hl j z hz hj
   have:=hobj i y hx l hl j z hz hj
   by_cases hji:j<i
   ·rw[if_pos (by simp[nlt];omega)] at this
    rw[hanc j this];simp[hji]
   ·rw[if_neg (by simp[nlt];omega)] at this
    simp only[hji,decide_false]
    rcases this with rfl|h
    ·exact hun
    ·exact hanc' j h
  have hsp:∀d,A3 f ys listed d→vc y d=false:=fun d ⟨j,z,h1,h2,h3⟩=>by
   cases hs:vc y d with
   |false=>rfl
   |true=>
    have hij:i≠j:=fun e=>by subst e;rw[hun] at h1;cases h1
    rw[hanc' j (hkill j z d h2 h3 i y hx hij hs)] at h1;cases h1
  have hneeds:∀z t,(z,t)∈y.x.needs→cvT E w t (a.eval z):=by
   intro z t hm
   have hnt:∀d,A3 f ys listed d→t.has d=false:=fun d hd=>by
    have:=hsp d hd
    simp only[vc,SX] at this
    have:=List.any_eq_false.1 this.1.1 (z,t) hm
    simpa using this
   have ht:=t1 z t hm
   cases z with
   |tmp k=>
    have hks:k∈gv y.x.needs:=by
     have key:∀(l:List (Operand×T)),(Operand.tmp k,t)∈l→k∈gv l:=by
      intro l
      induction l with
      |nil=>intro h;cases h
      |cons p r ihl=>
       intro h
       rcases List.mem_cons.1 h with e|h
       ·rw[←e];simp[gv]
       ·have h9:=ihl h;obtain⟨z,u⟩:=p;cases z<;>simp[gv,h9]
     exact key _ hm
    show cvT E w t (a.tmps.getD k undef)
    have ht':gt (qm base (fk (ys.take i))) k=t:=ht
    have hit:fk (ys.take i)=(fk ys).take i:=by simp[fk,List.map_take]
    rw[hit] at ht'
    have hgx:∀(j:Nat) (z:Inf),(fk ys)[j]?=some z→∃y',ys[j]?=some y'∧y'.x=z:=fun j z h=>by
     simp only[fk,List.getElem?_map,Option.map_eq_some_iff] at h;exact h
    cases hw:pN (fk ys) k with
    |none=>
     have hno:∀z∈fk ys,z.d≠k:=by
      intro z hz e
      have:=List.findIdx?_eq_none_iff.1 hw z hz
      rw[e] at this;simp at this
     rw[tR _ _ (fun z hz=>hno z (List.mem_of_mem_take hz))] at ht'
     rw[←ht']
     exact hI.old k (fun j y' _ hy=>hno y'.x (List.mem_map.2 ⟨y',RS hy,rfl⟩)) (fun d hd=>by rw[ht'];exact hnt d hd)
    |some j=>
     have hs:=hslot i y hx k hks j hw
     obtain⟨hjl,hjp,_⟩:=List.findIdx?_eq_some_iff_getElem.1 hw
     have hjd:(fk ys)[j].d=k:=RU hjp
     obtain⟨yj,hyj,hyx⟩:=hgx j _ (v0 hjl)
     have hju:∀j' z,(fk ys)[j']?=some z→z.d=k→j'=j:=fun j' z hy he=>nM hdst j' j z (fk ys)[j] hy (v0 hjl) (by rw[he,hjd])
     by_cases hji:j<i
     ·rw[if_pos (by simp[nlt];omega)] at hs
      have hdone:=hanc j hs
      have h9:=qY (base:=base) ((fk ys).take i) j (fk ys)[j] (by rw[R7,if_pos hji];exact v0 hjl) (fun j' z hy he=>hju j' z (by rw[R7] at hy;split at hy;exact hy;cases hy) (by rw[he,hjd]))
      rw[hjd] at h9
      have:=hI.out j yj hdone hyj (fun d hd=>by rw[hyx,←h9,ht'];exact hnt d hd)
      rw[hyx,hjd] at this
      rw[←ht',h9];exact this
     ·rw[if_neg (by simp[nlt];omega)] at hs
      rw[tR _ _ (fun z hz e=>by
       obtain⟨j',hj'⟩:=SS hz
       rw[R7] at hj'
       split at hj'
       ·rename_i hlt;have:=hju j' z hj' e;omega
       ·cases hj')] at ht'
      rw[←ht']
      refine hI.old k (fun j' y' hj' hy he=>?_) (fun d hd=>by rw[ht'];exact hnt d hd)
      have hjj:=hju j' y'.x (by simp[fk,hy]) he
      subst hjj
      rcases hs with rfl|hs
      ·rw[hun] at hj';cases hj'
      ·rw[hanc' j' hs] at hj';cases hj'
   |const v=>have:=(show Rel N cx E ⟨[],[],base.nx⟩ a w→cvT E w (opT [] (.const v)) (a.eval (.const v)) from fun h=>h.op _);rw[←ht];cases v<;>simp only[opT,Act.eval,cvT,cvV]<;>first|exact tm E w _|exact⟨_,rfl,pO E w _⟩|(simp only[cvC,rdD])
   |func f=>rw[←ht];simp[opT,Act.eval,cvT,cvV,cvC]
   |global g=>rw[←ht];trivial
  have hnob:∀l ob,(l,ob)∈y.x.nob→co E w l ob:=by
   intro l ob hm
   have hgo:=t2 l ob hm
   refine hI.obs l ob ?_ (fun d hd=>by
    have:=hsp d hd
    simp only[vc,SX] at this
    refine⟨fun e=>?_,by simpa using List.any_eq_false.1 this.2 (l,ob) hm⟩
    subst e
    have h9:pH (pF y) l=true:=List.any_eq_true.2 ⟨l,by simp only[pF,TG,TM];exact .inl ⟨_,hm,rfl⟩,by simp⟩
    rw[h9] at this;cases this.1.2)
   rw[←hgo,obX,←sC (p:=fun j=>decide (j<i)) (k:=0) (n:=i) (fun j=>by simp)]
   refine ny rfl (fun j z hz hj=>?_)
   rw[R9]
   exact hord l (by simp only[pF,TG,TM];exact .inl ⟨_,hm,rfl⟩) j z hz hj
  have hgi:(fk ys)[i]?=some y.x:=by simp[fk,hx]
  have hfresh:∀l ob,(l,ob)∈y.x.nw→E.r l=none:=by
   intro l ob hm
   cases hr:E.r l with
   |none=>rfl
   |some p=>
    have hlr:=(iz hlab).2 i y.x l ob hgi hm
    rcases hI.dom l p hr with h|⟨j,z,ob',h1,h2,h3⟩
    ·omega
    ·have:=(tD hlab i j y.x z.x l ob ob' hgi (by simp[fk,h2]) hm h3).1
     subst this;rw[hun] at h1;cases h1
  have hnext:∀v E' w',cK cx E' w'→oE y.up y.kl E w E' w'→cvT E' w' y.x.out v→(∀l ob,(l,ob)∈y.x.nw→co E' w' l ob)→(∀l ob,(l,ob)∈y.up→co E' w' l ob)→(∀l x,E'.r l=some x→E.r l=some x∨∃ob,(l,ob)∈y.x.nw)→
   wpAny P .any ops Q (unl ops (listed.setIfInBounds (f i) true)) (listed.setIfInBounds (f i) true) (a.put (some y.x.d) v) w':=by
   intro v E' w' k1 k2 k3 k4 k4' k5
   refine ih _ _ _ E' ?_ (by simpa using hsz) (rS hsz hio ho hd hcl) (fun j hj=>?_) (fun j hj hj'=>?_) (J1 hI hdst hx (by omega) (fun j hj e=>hinj i j hil hj e) hun t4 (fun l hl=>hord l (HP hl)) k1 k2 k3 k4 k4' k5)
   ·have hcount:∀(l:List Nat),l.Nodup→(∀k∈l,k<ys.length)→i∈l→(l.filter fun k=>!listed.getD (f k) false).length=(l.filter fun k=>!(listed.setIfInBounds (f i) true).getD (f k) false).length+1:=by
     intro l
     induction l with
     |nil=>intro _ _ h;cases h
     |cons k l ihl=>
      intro hnd hbd hm
      obtain⟨hk1,hk2⟩:=List.nodup_cons.1 hnd
      by_cases hki:i=k
      ·subst hki
       have hsame:(l.filter fun k=>!listed.getD (f k) false)=(l.filter fun k=>!(listed.setIfInBounds (f i) true).getD (f k) false):=by
        apply TW
        intro z hz
        rw[bW (by omega),if_neg (fun e=>hk1 (by
         have:i=z:=hinj i z hil (hbd z (by simp[hz])) e
         rw[this];exact hz))]
       rw[Ti (by simp only[Tc];exact hun),Tj (by rw[bW (by omega),if_pos rfl];simp),hsame,SQ]
      ·have hml:i∈l:=by rcases List.mem_cons.1 hm with e|e;exact absurd e hki;exact e
       have:=ihl hk2 (fun z hz=>hbd z (by simp[hz])) hml
       have hgk:(listed.setIfInBounds (f i) true).getD (f k) false=listed.getD (f k) false:=by rw[bW (by omega),if_neg (fun e=>hki (hinj i k hil (hbd k (by simp)) e))]
       cases hgd:listed.getD (f k) false with
       |true=>rw[Tj (by simp only[hgd];simp),Tj (by simp only[hgk,hgd];simp)];exact this
       |false=>rw[Ti (by simp only[hgd];simp),Ti (by simp only[hgk,hgd];simp),SQ,SQ,this]
    have:=hcount (SO ys.length) TX (fun k hk=>by simpa using hk) (by simpa using hil)
    omega
   ·rw[bW (by omega)];split
    ·rfl
    ·exact hpre j hj
   ·rw[bW (by omega),if_neg (hj' i hil)];exact hpost j hj hj'
  have hrun:∀needs,(∀z t,(z,t)∈needs→cvT E w t (a.eval z))→AWK P o needs y.x.nob y.x.out y.x.nw y.up y.kl→o.wp P a w (wpAny P .any ops Q (unl ops (listed.setIfInBounds (f i) true)) (listed.setIfInBounds (f i) true)) Q:=by
   intro needs hne hawn
   refine oB (fun _ _ _ h=>h.elim) (Oper.wp_mono ?_ (hawn cx E a w hI.ok hne hnob (fun l ob hm=>⟨hfresh l ob hm,zL hlab i y.x l ob hgi hm⟩)))
   rintro a' w' ⟨v,E',rfl,k1,k2,k3,k4,k4',k5⟩
   rw[I4 t3 hI.size]
   exact hnext v E' w' k1 k2 k3 k4 k4' k5
  have hguard:∀j dj (b:Bool),(ops[j]?).bind (·.dst)=some dj→dj<N→cvT E w (tB b) (a.eval (.tmp dj))→yielded ops a.tmps j=some b:=by
   intro j dj b hj hdj hcv
   have hb:a.tmps.getD dj undef= .bool b:=by simpa [cvT,cvV,cvC,rdD,Act.eval] using hcv
   have hs:dj<a.tmps.size:=by rw[hI.size];exact hdj
   have h2:a.tmps[dj]?=some (.bool b):=by
    rw[Sj hs];simpa [Array.getD,hs] using hb
   unfold yielded
   cases ho':ops[j]? with
   |none=>simp[ho'] at hj
   |some o'=>simp[ho'] at hj;simp[hj,h2]
  unfold wpOp
  simp only[ho]
  rcases t5 with⟨hg,hawn⟩|⟨j,dj,b,zs,hg,hj,hdj,hnd,hawn⟩|⟨j,dj,b,t,hg,hj,hdj,hnd,hno,hout,hnw,hup,hkl⟩
  ·rw[if_pos (by simp[Region.wanted,hg])]
   exact .inl (hrun _ hneeds hawn)
  ·have hy:=hguard j dj b hj hdj (hneeds (.tmp dj) (tB b) (by rw[hnd];simp))
   rw[if_pos (by simp[Region.wanted,hg,hy])]
   exact .inl (hrun zs (fun z t hm=>hneeds z t (by rw[hnd];exact .tail _ hm)) hawn)
  ·have hy:=A1 (N:=N) (ops:=ops) (hneeds (.tmp dj) t (by rw[hnd];simp)) (by rw[hI.size];exact hdj) hj hno
   rw[if_neg (by simp[Region.wanted,hg,hy]),I4 t3 hI.size]
   exact hnext undef E w hI.ok (by rw[hup,hkl];exact .of_extW (.of_ext (Ext.refl E w))) (by rw[hout];exact⟨#[],rfl,trivial⟩) (by rw[hnw];simp) (by rw[hup];simp) (fun _ _ h=>.inl h)
end
end Go.AM
namespace Go.AM
open Go.RowKit
def BO (P:Program) (N:Nat) (ops:Array Oper) (o:Oper) (st st':St):Prop:=
 (o.guard=none∧AWO P N o st st')∨(∃j dj b,o.guard=some (j,b)∧(ops[j]?).bind (·.dst)=some dj∧dj<N∧gt st.sl dj=tB b∧AWO P N o st st')
def Es (ops:Array Oper) (done:List Nat) (h:Nat):Bool:=!pH done h&&(SO ops.size).all fun j=>d0 j h||pH done j||anc ops ops.size j h
def kls:List Inx→List Nat
 |[]=>[]
 |y::ys=>match y.kl with
  |some d=>d::kls ys
  |none=>kls ys
theorem IQ {d:Nat}:∀{ys:List Inx} {y:Inx},y∈ys→y.kl=some d→d∈kls ys
 |z::zs,y,hm,hk=>by
  rcases List.mem_cons.1 hm with rfl|hm
  ·simp[kls,hk]
  ·have:=IQ hm hk
   unfold kls
   split
   ·exact TT _ this
   ·exact this
def Ei (ys:List Inx) (st s:St):Prop:=
 (∀k,gt s.sl k= .any∨(gt s.sl k=gt st.sl k∧∀d∈kls ys,(gt st.sl k).has d=false))∧(∀l x,go s.ob l=some x→go st.ob l=some x∧∀d∈kls ys,l≠d∧x.hasO d=false)∧s.nx=st.nx
theorem zh {ys:List Inx} {st:St} (h:kls ys=[]):Ei ys st st:=by
 refine⟨fun k=>.inr ⟨rfl,?_⟩,fun l x hl=>⟨hl,?_⟩,rfl⟩<;>(rw[h];intro d hd;cases hd)
theorem zg {ys:List Inx} {ds:List Nat} {sl sl':List (Nat×T)} {ob ob':List (Nat×Ob)} {nx:Nat} (h:kls ys=ds) (hk:zK ds sl ob=some (sl',ob')):Ei ys ⟨sl,ob,nx⟩ ⟨sl',ob',nx⟩:=by
 obtain⟨h1,h2⟩:=Fh hk
 subst h
 exact⟨h1,h2,rfl⟩
def DZ (P:Program) (N:Nat) (ops:Array Oper):List (Nat×Oper)→List Nat→List Nat→List Inx→St→St→(St→Prop)→Prop
 |[],done,seg,ys,_,st,K=>wk ops done seg ys=true∧∃s,Ei ys st s∧K s
 |(p,o)::r,done,seg,ys,base,st,K=>
  (∃y st1 st',DS2 P N ops o st st1 y∧tY st1 st'∧DZ P N ops r done (seg++[p]) (ys++[y]) base st' K)∨
  (wk ops done seg ys=true∧Es ops (seg++done) p=true∧∃s st0 st1 st2,Ei ys st s∧cZ N s st0∧BO P N ops o st0 st1∧cZ N st1 st2∧DZ P N ops r (p::(seg++done)) [] [] st2 st2 K)
theorem eT {l:List Nat} {n:Nat}:pH l n=true↔n∈l:=by
 simp only[pH,TO]
 constructor
 ·rintro⟨k,h1,h2⟩;rw[←RU h2];exact h1
 ·intro h;exact⟨n,h,by simp⟩
theorem mw {seg:List Nat} {j:Nat} (h:j<seg.length):seg[j]?=some (at0 seg j):=by
 unfold at0
 rw[TP,v0 h]
 rfl
section
variable {P:Program} {N:Nat} {cx:Cx} {ops:Array Oper} {base:St} {f:Nat→Nat} {done seg:List Nat} {ys:List Inx} {Q:Exit→Act→World→Prop}
theorem F5 (h:wk ops done seg ys=true):nL (fk ys)=true∧seg.length=ys.length∧(seg++done).Nodup∧(∀i,i<ys.length→at0 seg i<ops.size)∧
 (∀i y,ys[i]?=some y→∀k∈gv y.x.needs,∀j,pN (fk ys) k=some j→if nlt j i then anc ops ops.size (at0 seg i) (at0 seg j)=true else(i=j∨anc ops ops.size (at0 seg j) (at0 seg i)=true))∧
 (∀i y,ys[i]?=some y→∀l∈pF y,∀j z,ys[j]?=some z→ml z l=true→if nlt j i then anc ops ops.size (at0 seg i) (at0 seg j)=true else(i=j∨anc ops ops.size (at0 seg j) (at0 seg i)=true))∧
 (∀j,j<ops.size→pH done j=false→(∀i,i<ys.length→at0 seg i≠j)→∀i,i<ys.length→anc ops ops.size j (at0 seg i)=true)∧
 (∀j z d,ys[j]?=some z→z.kl=some d→∀i y,ys[i]?=some y→i≠j→vc y d=true→anc ops ops.size (at0 seg j) (at0 seg i)=true):=by
 simp only[wk,hV] at h
 obtain⟨⟨⟨⟨⟨⟨h1,h2⟩,h2'⟩,h2''⟩,h3⟩,h4⟩,h5⟩:=h
 have hlen:seg.length=ys.length:=RU h2
 have key:∀(i j:Nat),(if nlt j i then anc ops ops.size (at0 seg i) (at0 seg j) else d0 i j||anc ops ops.size (at0 seg j) (at0 seg i))=true→if nlt j i then anc ops ops.size (at0 seg i) (at0 seg j)=true else(i=j∨anc ops ops.size (at0 seg j) (at0 seg i)=true):=by
  intro i j h
  split
  ·rename_i hji;simpa [hji] using h
  ·rename_i hji
   simp only[hji,Bool.false_eq_true,if_false,SU] at h
   rcases h with h|h
   ·exact .inl (RU h)
   ·exact .inr h
 refine⟨h1,hlen,ig h2',fun i hi=>?_,fun i y hy k hk j hj=>?_,fun i y hy l hl j z hz ht=>?_,fun j hj hd hs i hi=>?_,fun j z d hz hd i y hy hij hs=>?_⟩
 ·exact cF (List.all_eq_true.1 h2'' (at0 seg i) (RS (mw (by omega))))
 ·have hil:=(List.getElem?_eq_some_iff.1 hy).1
  have:=List.all_eq_true.1 h3 i (by simpa using hil)
  simp only[hy,hV] at this
  have:=List.all_eq_true.1 this.1 k hk
  simp only[hj] at this
  exact key i j this
 ·have hil:=(List.getElem?_eq_some_iff.1 hy).1
  have hjl:=(List.getElem?_eq_some_iff.1 hz).1
  have:=List.all_eq_true.1 h3 i (by simpa using hil)
  simp only[hy,hV] at this
  have:=List.all_eq_true.1 (List.all_eq_true.1 this.2 l hl) j (by simpa using hjl)
  simp only[hz,ht,TF,TL] at this
  exact key i j this
 ·have:=List.all_eq_true.1 h4 j (by simpa using hj)
  rw[SU,SU] at this
  rcases this with(h|h)|h
  ·rw[hd] at h;cases h
  ·obtain⟨n,hn⟩:=SS (eT.1 h)
   have hns:=(List.getElem?_eq_some_iff.1 hn).1
   have:=mw hns
   rw[hn] at this
   exact absurd (Option.some.inj this).symm (hs n (by omega))
  ·exact List.all_eq_true.1 h (at0 seg i) (RS (mw (by omega)))
 ·have hjl:=(List.getElem?_eq_some_iff.1 hz).1
  have hil:=(List.getElem?_eq_some_iff.1 hy).1
  have h6:=List.all_eq_true.1 h5 j (by simpa using hjl)
  simp only[hz,hd] at h6
  have h7:=List.all_eq_true.1 h6 i (by simpa using hil)
  simp only[hy,hs,TF,Bool.or_false,SU] at h7
  rcases h7 with h7|h7
  ·exact absurd (RU h7) hij
  ·exact h7
theorem Fe {listed:Array Bool} {a:Act} {w:World} {E:Env} {st:St} (hI:JF N cx base f ys listed a w E) (hdst:nL (fk ys)=true) (hdone:∀j,j<ys.length→listed.getD (f j) false=true)
 (h1:∀k,gt st.sl k=gt (qm base (fk ys)) k) (h2:st.ob=obX base ys) (h3:em base.nx (fk ys) st.nx) {s:St} (hC:Ei ys st s):Rel N cx E s a w:=by
 have hr:=iz h3
 obtain⟨C1,C2,C3⟩:=hC
 have hDk:∀d,A3 f ys listed d→d∈kls ys:=fun d ⟨j,y,_,hy,hk⟩=>IQ (RS hy) hk
 refine⟨hI.ok,fun l' x' hl=>?_,fun l' ob hl=>?_,fun k=>?_,hI.dfr,hI.size,fun l' b' h'=>by rw[C3];exact Nat.lt_of_lt_of_le (hI.td l' b' h') hr.1⟩
 ·rw[C3];rcases hI.dom l' x' hl with h|⟨j,y,ob,_,h4,h5⟩
  ·omega
  ·have:=hr.2 j y.x l' ob (by simp[fk,h4]) h5;omega
 ·obtain⟨hl,hn⟩:=C2 l' ob hl
  refine hI.obs l' ob ?_ (fun d hd=>hn d (hDk d hd))
  rw[←hl,h2,obX]
  refine ny rfl (fun j z hz hj=>?_)
  rw[R9]
  exact hdone j (List.getElem?_eq_some_iff.1 hz).1
 ·rcases C1 k with e|⟨e,hn⟩
  ·rw[e];trivial
  rw[e]
  have hn':∀d,A3 f ys listed d→(gt st.sl k).has d=false:=fun d hd=>hn d (hDk d hd)
  rw[h1 k] at hn' ⊢
  cases hw:pN (fk ys) k with
  |none=>
   have hno:∀z∈fk ys,z.d≠k:=by
    intro z hz e
    have:=List.findIdx?_eq_none_iff.1 hw z hz
    rw[e] at this;simp at this
   rw[tR _ _ hno] at hn' ⊢
   exact hI.old k (fun j y _ hy=>hno y.x (List.mem_map.2 ⟨y,RS hy,rfl⟩)) hn'
  |some j=>
   obtain⟨hjl,hjp,_⟩:=List.findIdx?_eq_some_iff_getElem.1 hw
   have hjd:(fk ys)[j].d=k:=RU hjp
   have hjl':j<ys.length:=by simpa [fk] using hjl
   have h5:(fk ys)[j]=(ys[j]).x:=by simp[fk]
   have h9:=qY (base:=base) (fk ys) j (fk ys)[j] (v0 hjl) (fun j' y hy he=>nM hdst j' j y (fk ys)[j] hy (v0 hjl) he)
   rw[hjd] at h9
   have:=hI.out j ys[j] (hdone j hjl') (v0 hjl') (fun d hd=>by rw[←h5,←h9];exact hn' d hd)
   rw[←h5,hjd] at this
   rw[h9];exact this
theorem FM {listed:Array Bool} {a:Act} {w:World} {E:Env} (hR:Rel N cx E base a w) (hl:∀j,j<ys.length→listed.getD (f j) false=false):JF N cx base f ys listed a w E:=by
 refine⟨hR.ok,fun l x h=>.inl (hR.dom l x h),fun l ob h _=>?_,fun j y h hy _=>?_,fun k _ _=>hR.sl k,hR.dfr,hR.size,hR.td⟩
 ·refine hR.obs l ob ?_
  rw[ny (q:=fun _=>false) (B:=base.ob) rfl (fun j z hz hj=>by rw[R9];exact hl j (List.getElem?_eq_some_iff.1 hz).1)] at h
  rw[sC (n:=0) (fun j=>by simp)] at h
  simpa [obF] using h
 ·rw[hl j (List.getElem?_eq_some_iff.1 hy).1] at h;cases h
theorem Ft {l:List Nat} (h:l.Nodup):∀(i j:Nat) (x:Nat),l[i]?=some x→l[j]?=some x→i=j:=by
 intro i j x hi hj
 obtain⟨hi',e1⟩:=List.getElem?_eq_some_iff.1 hi
 obtain⟨hj',e2⟩:=List.getElem?_eq_some_iff.1 hj
 rcases TR i j with h'|h'|h'
 ·exact absurd (e1.trans e2.symm) (List.pairwise_iff_getElem.1 h i j hi' hj' h')
 ·exact h'
 ·exact absurd (e2.trans e1.symm) (List.pairwise_iff_getElem.1 h j i hj' hi' h')
theorem LO {K:St→Prop} {rk:Nat→Nat} (hedge:Edg ops rk) (hQ:∀E st a w,Rel N cx E st a w→K st→Q .normal a w):
 ∀{l:List (Nat×Oper)} {done seg:List Nat} {ys:List Inx} {base st:St},DZ P N ops l done seg ys base st K→seg.length=ys.length→(∀q∈l,ops[q.1]?=some q.2)→(∀j,j<ops.size→j∈seg∨j∈done∨∃q∈l,q.1=j)→
  (∀(i:Nat) (o:Oper) (y:Inx),ops[at0 seg i]?=some o→ys[i]?=some y→K8 P N ops base (ys.take i) o y)→
  (∀k,gt st.sl k=gt (qm base (fk ys)) k)→st.ob=obX base ys→em base.nx (fk ys) st.nx→
  ∀(listed:Array Bool) (a:Act) (w:World) (E:Env),listed.size=ops.size→rK ops listed→(∀j,listed.getD j false=pH done j)→Rel N cx E base a w→wpAny P .any ops Q (unl ops listed) listed a w:=by
 intro l
 induction l with
 |nil=>
  intro done seg ys base st hD hlen hops hcov htold h1 h2 h3 listed a w E hsz hcl hls hR
  obtain⟨hseg,s,hcl0,hK⟩:=hD
  obtain⟨c1,c1',c1'',c2,c3,c4,c5,c6⟩:=F5 hseg
  obtain⟨nd1,nd2,nd3⟩:=List.nodup_append.1 c1''
  have hnd:∀i,i<ys.length→pH done (at0 seg i)=false:=fun i hi=>by
   rw[TQ];intro h
   exact nd3 _ (RS (mw (by omega))) _ (eT.1 h) rfl
  refine Cy (f:=at0 seg) (done:=pH done) hedge c2 (fun i j hi hj e=>Ft nd1 i j _ (mw (by omega)) (by rw[e];exact mw (by omega))) hnd h3 c1 c3 c4 c6 c5 htold (fun listed' a' w' E' hsz' hcl' hd' hs' hp' hI'=>?_) _ listed a w E rfl hsz hcl (fun j hj=>by rw[hls j];exact hj) (fun j hj _=>by rw[hls j];exact hj) (FM hR (fun j hj=>by rw[hls];exact hnd j hj))
  have hall:∀j,j<ops.size→listed'.getD j false=true:=fun j hj=>by
   rcases hcov j hj with h|h|⟨q,hq,_⟩
   ·obtain⟨i,hi⟩:=SS h
    have his:=(List.getElem?_eq_some_iff.1 hi).1
    have:=mw his;rw[hi] at this
    rw[Option.some.inj this];exact hs' i (by omega)
   ·exact hd' j (eT.2 h)
   ·cases hq
  have hu:unl ops listed'=0:=by
   unfold unl
   rw[List.length_eq_zero_iff,List.filter_eq_nil_iff]
   intro j hj
   rw[hall j (by simpa using hj)]
   simp
  rw[hu]
  refine⟨?_,hQ E' s a' w' (Fe hI' c1 hs' h1 h2 h3 hcl0) hK⟩
  rw[List.eq_nil_iff_forall_not_mem]
  intro i hi
  obtain⟨k1,k2,_⟩:=ji hsz' hi
  rw[hall i k1] at k2;cases k2
 |cons q r ih=>
  obtain⟨p,o⟩:=q
  intro done seg ys base st hD hlen hops hcov htold h1 h2 h3 listed a w E hsz hcl hls hR
  have hat:ops[p]?=some o:=hops (p,o) (by simp)
  rcases hD with⟨y,st1,st',hds,hsame,hr⟩|⟨hseg,hbar,s,st0,st1,st2,hcl0,hw0,hbo,hw1,hr⟩
  ·obtain⟨k1,k2,k3,k4⟩:=KU hds hsame h1 h2 h3
   refine ih hr (by simp[hlen]) (fun q hq=>hops q (by simp[hq])) (fun j hj=>?_) (fun i o' y' ho' hy'=>?_) k2 k3 k4 listed a w E hsz hcl hls hR
   ·rcases hcov j hj with h|h|⟨q,hq,e⟩
    ·exact .inl (by simp[h])
    ·exact .inr (.inl h)
    ·rcases List.mem_cons.1 hq with rfl|hq
     ·exact .inl (by simp[←e])
     ·exact .inr (.inr ⟨q,hq,e⟩)
   ·rcases SV i ys.length with h|h
    ·rw[RY h] at hy'
     rw[List.take_append_of_le_length (by omega)]
     have e:at0 (seg++[p]) i=at0 seg i:=by unfold at0;rw[TP,TP,RY (by omega)]
     rw[e] at ho'
     exact htold i o' y' ho' hy'
    ·have hi:i=ys.length:=by
      have:=(List.getElem?_eq_some_iff.1 hy').1
      simp at this;omega
     subst hi
     simp at hy'
     subst hy'
     rw[List.take_left]
     have e:at0 (seg++[p]) ys.length=p:=by unfold at0;rw[TP,←hlen];simp
     rw[e,hat] at ho'
     cases ho'
     exact k1
  ·obtain⟨c1,c1',c1'',c2,c3,c4,c5,c6⟩:=F5 hseg
   obtain⟨nd1,nd2,nd3⟩:=List.nodup_append.1 c1''
   have hlt:p<ops.size:=by
    rcases SV p ops.size with h|h
    ·exact h
    ·rw[SY h] at hat;cases hat
   have hnd:∀i,i<ys.length→pH done (at0 seg i)=false:=fun i hi=>by
    rw[TQ];intro h
    exact nd3 _ (RS (mw (by omega))) _ (eT.1 h) rfl
   refine Cy (f:=at0 seg) (done:=pH done) hedge c2 (fun i j hi hj e=>Ft nd1 i j _ (mw (by omega)) (by rw[e];exact mw (by omega))) hnd h3 c1 c3 c4 c6 c5 htold (fun listed' a' w' E' hsz' hcl' hd' hs' hp' hI'=>?_) _ listed a w E rfl hsz hcl (fun j hj=>by rw[hls j];exact hj) (fun j hj _=>by rw[hls j];exact hj) (FM hR (fun j hj=>by rw[hls];exact hnd j hj))
   have hseg':∀j,j∈seg→listed'.getD j false=true:=fun j h=>by
    obtain⟨i,hi⟩:=SS h
    have his:=(List.getElem?_eq_some_iff.1 hi).1
    have:=mw his;rw[hi] at this
    rw[Option.some.inj this];exact hs' i (by omega)
   have hls':∀j,listed'.getD j false=pH (seg++done) j:=fun j=>by
    cases hm:pH (seg++done) j with
    |true=>
     rcases List.mem_append.1 (eT.1 hm) with h|h
     ·exact hseg' j h
     ·exact hd' j (eT.2 h)
    |false=>
     have hn:j∉seg++done:=fun h=>by rw[eT.2 h] at hm;cases hm
     refine hp' j ?_ (fun i hi e=>hn ?_)
     ·rw[TQ];intro h;exact hn (List.mem_append.2 (.inr (eT.1 h)))
     ·rw[←e];exact List.mem_append.2 (.inl (RS (mw (by omega))))
   have hRel:=Fe hI' c1 hs' h1 h2 h3 hcl0
   simp only[Es,hV] at hbar
   obtain⟨hpd,hbar⟩:=hbar
   have hun:listed'.getD p false=false:=by rw[hls'];simpa using hpd
   have hus:=oy (ops:=ops) hsz' hlt hun
   rw[hus]
   refine⟨fun h0=>absurd h0 (z0 hedge hsz' hus),fun q hq=>?_⟩
   obtain⟨hio,hunp,o',ho',hd⟩:=ji hsz' hq
   have hp:q=p:=by
    have hb:=List.all_eq_true.1 hbar q (by simpa using hio)
    rw[SU,SU] at hb
    rcases hb with(hb|hb)|hb
    ·exact RU hb
    ·rw[hls',hb] at hunp;cases hunp
    ·have:=uE hcl' hb ⟨o',ho',hd⟩
     rw[hun] at this;cases this
   subst hp
   rw[hat] at ho'
   cases ho'
   obtain⟨E0,hR0⟩:=hw0 cx E' a' w' hRel
   have hrun:∀(h:AWO P N o st0 st1),o.wp P a' w' (wpAny P .any ops Q (unl ops (listed'.setIfInBounds q true)) (listed'.setIfInBounds q true)) Q:=by
    intro h
    refine oB (fun _ _ _ h=>h.elim) (Oper.wp_mono ?_ (h cx E0 a' w' hR0))
    rintro a2 w2 ⟨E2,hR2⟩
    obtain⟨E3,hR3⟩:=hw1 cx E2 a2 w2 hR2
    refine ih hr rfl (fun q hq=>hops q (by simp[hq])) (fun j hj=>?_) (fun i o' y' ho' hy'=>by simp at hy') (fun k=>rfl) rfl rfl _ a2 w2 E3 (by simpa using hsz') (rS hsz' hlt hat hd hcl') (fun j=>?_) hR3
    ·rcases hcov j hj with h|h|⟨z,hz,e⟩
     ·exact .inr (.inl (by simp[h]))
     ·exact .inr (.inl (by simp[h]))
     ·rcases List.mem_cons.1 hz with rfl|hz
      ·exact .inr (.inl (by simp[←e]))
      ·exact .inr (.inr ⟨z,hz,e⟩)
    ·rw[bW (by omega)]
     split
     ·rename_i h;subst h;symm;exact eT.2 (by simp)
     ·rename_i hne
      rw[hls' j]
      cases hm:pH (seg++done) j with
      |true=>symm;exact eT.2 (TT _ (eT.1 hm))
      |false=>
       symm;rw[TQ];intro h
       rcases List.mem_cons.1 (eT.1 h) with e|h
       ·exact hne e.symm
       ·rw[eT.2 h] at hm;cases hm
   unfold wpOp
   simp only[hat]
   rcases hbo with⟨hg,hawo⟩|⟨j,dj,b,hg,hj,hdj,hb,hawo⟩
   ·rw[if_pos (by simp[Region.wanted,hg])]
    exact .inl (hrun hawo)
   ·have hy:=A0 (ops:=ops) hR0 hj hdj hb
    rw[if_pos (by simp[Region.wanted,hg,hy])]
    exact .inl (hrun hawo)
end
def Fy (l:List Oper):List Nat→Option (List (Nat×Oper))
 |[]=>some []
 |i::is=>match l[i]?,Fy l is with
  |some o,some r=>some ((i,o)::r)
  |_,_=>none
def Oo (n:Nat) (is:List Nat):Bool:=(SO n).all fun j=>pH is j
theorem nW {l:List Oper}:∀{is:List Nat} {r:List (Nat×Oper)},Fy l is=some r→(∀q∈r,l[q.1]?=some q.2)∧(∀j∈is,∃q∈r,q.1=j)
 |[],r,h=>by simp[Fy] at h;subst h;simp
 |i::is,r,h=>by
  simp only[Fy] at h
  split at h
  ·rename_i o r' h1 h2
   simp at h;subst h
   obtain⟨k1,k2⟩:=nW h2
   refine⟨fun q hq=>?_,fun j hj=>?_⟩
   ·rcases List.mem_cons.1 hq with rfl|hq
    ·exact h1
    ·exact k1 q hq
   ·rcases List.mem_cons.1 hj with rfl|hj
    ·exact⟨_,List.mem_cons_self ..,rfl⟩
    ·obtain⟨q,hq,e⟩:=k2 j hj;exact⟨q,TT _ hq,e⟩
  ·cases h
theorem qt {P:Program} {N id:Nat} {l:List Oper} {st:St} {AQ:Exit→St→Prop} (is:List Nat) {r:List (Nat×Oper)} (hm:P.follows .mixedOrders=true:=by exact Try.follows) (he:CX l.toArray=true:=by kernel_rfl) (hc:Oo l.length is=true:=by kernel_rfl) (ho:Fy l is=some r:=by exact rfl)
 (h:DZ P N l.toArray r [] [] [] st st (fun s=>AQ .normal s)):AWC P N (.region id l.toArray true) st AQ:=by
 intro cx E a w hR
 refine wp_region_any hm ?_
 have hR':=vV hR
 have hedge:∀i o,l.toArray[i]?=some o→∀e∈o.after,Region.binds .any e=true→e.on<i:=by
  intro i o ho e hm hb
  have hi:i<l.toArray.size:=by
   rcases SV i l.toArray.size with h|h
   ·exact h
   ·rw[SY h] at ho;cases ho
  have:=List.all_eq_true.1 he i (by simpa using hi)
  simp only[ho] at this
  have:=List.all_eq_true.1 this e (by simpa using hm)
  simp only[hb,TF,TL] at this
  exact cF this
 have hfull:unl l.toArray (SR l.toArray.size false)=l.toArray.size:=by
  unfold unl
  rw[List.filter_eq_self.2]
  ·simp
  ·intro i hi;rw[eV];rfl
 have:=LO (P:=P) (cx:=cx) (Q:=zN N cx AQ) (LP hedge) (fun E st a w hR hK=>⟨E,st,hR,hK⟩) h rfl (fun q hq=>by have:=(nW ho).1 q hq;simpa using this) (fun j hj=>by
  have hj':j<l.length:=by simpa using hj
  have:=List.all_eq_true.1 hc j (by simpa using hj')
  exact .inr (.inr ((nW ho).2 j (eT.1 this)))) (fun i o y _ hy=>by simp at hy) (fun k=>rfl) rfl rfl (SR l.toArray.size false) a _ E (by simp) (fun i o ho hd=>by rw[eV] at hd;cases hd) (fun j=>by rw[eV];simp[pH]) hR'
 rw[hfull] at this
 exact this
section
variable {P:Program} {N:Nat} {ops:Array Oper} {l:List (Nat×Oper)} {o:Oper} {st st' base:St} {x:Inf} {y:Inx} {K:St→Prop} {ys:List Inx} {dn seg:List Nat} {p:Nat}
theorem GR (hs:wk ops dn seg ys=true) (hk:kls ys=[]) (h:K st):DZ P N ops [] dn seg ys base st K:=⟨hs,st,zh hk,h⟩
theorem jt {ds:List Nat} {sl sl':List (Nat×T)} {ob ob':List (Nat×Ob)} {nx:Nat} (hs:wk ops dn seg ys=true) (hk:kls ys=ds) (hA:zK ds sl ob=some (sl',ob')) (h:K ⟨sl',ob',nx⟩):DZ P N ops [] dn seg ys base ⟨sl,ob,nx⟩ K:=⟨hs,_,zg hk hA,h⟩
theorem jD (hg:o.guard=none) (h:NS P N o st st' x) (h':DZ P N ops l dn (seg++[p]) (ys++[⟨x,[],none⟩]) base st' K):DZ P N ops ((p,o)::l) dn seg ys base st K:=.inl ⟨_,st',st',.inl ⟨hg,Fv h⟩,.refl _,h'⟩
theorem LN {j:Nat} {dj:Tmp} {b:Bool} (hg:o.guard=some (j,b)) (hj:(ops[j]?).bind (·.dst)=some dj) (hdj:nlt dj N=true) (hb:gt st.sl dj=tB b) (h:NS P N o st st' x)
 (h':DZ P N ops l dn (seg++[p]) (ys++[⟨{x with needs:=(.tmp dj,tB b)::x.needs},[],none⟩]) base st' K):DZ P N ops ((p,o)::l) dn seg ys base st K:=.inl ⟨_,st',st',.inr (.inl ⟨j,dj,b,_,hg,hj,cF hdj,hb,Fv h,rfl⟩),.refl _,h'⟩
theorem yl (hg:o.guard=none) (h:NX P N o st st' y) (h':DZ P N ops l dn (seg++[p]) (ys++[y]) base st' K):DZ P N ops ((p,o)::l) dn seg ys base st K:=.inl ⟨_,st',st',.inl ⟨hg,h⟩,.refl _,h'⟩
theorem OD {j:Nat} {dj d:Tmp} {b:Bool} (hg:o.guard=some (j,b)) (hj:(ops[j]?).bind (·.dst)=some dj) {t:T} (hdj:nlt dj N=true) (ht:gt st.sl dj=t) (hb:noG b t=true) (hd:o.dst=some d) (hN:nlt d N=true)
 (h':DZ P N ops l dn (seg++[p]) (ys++[⟨⟨d,[(.tmp dj,t)],[],.tup [],[]⟩,[],none⟩]) base ⟨(d,.tup [])::st.sl,st.ob,st.nx⟩ K):DZ P N ops ((p,o)::l) dn seg ys base st K:=
 .inl ⟨_,_,_,.inr (.inr ⟨j,dj,b,d,hg,hj,cF hdj,by rw[ht];exact hb,hd,cF hN,by rw[ht],rfl⟩),.refl _,h'⟩
theorem gq {st0 st1:St} (hg:o.guard=none) (h:AWO P N o st0 st1):BO P N ops o st0 st1:=.inl ⟨hg,h⟩
theorem bT {s:St}:cZ N s s:=fun _ E _ _ h=>⟨E,h⟩
theorem CW {st0 st1 st2:St} (hs:wk ops dn seg ys=true) (hkl:kls ys=[]) (hb:Es ops (seg++dn) p=true) (hw:cZ N st st0) (h:BO P N ops o st0 st1) (hw2:cZ N st1 st2) {dn':List Nat} (hlo:p::(seg++dn)=dn') (h':DZ P N ops l dn' [] [] st2 st2 K):DZ P N ops ((p,o)::l) dn seg ys base st K:=by
 subst hlo
 exact .inr ⟨hs,hb,st,st0,st1,st2,zh hkl,hw,h,hw2,h'⟩
end
section
variable {P:Program} {N:Nat} {ops:Array Oper} {l:List (Nat×Oper)} {o:Oper} {sl:List (Nat×T)} {ob:List (Nat×Ob)} {nx:Nat} {base:St} {K:St→Prop} {ys:List Inx} {dn seg:List Nat} {p:Nat}
theorem zgs {j:Nat} {dj d:Tmp} {b:Bool} {t:T} (hg:o.guard=some (j,b)) (hj:(ops[j]?).bind (·.dst)=some dj) (hdj:nlt dj N=true) (ht:gt sl dj=t) (hb:noG b t=true) (hd:o.dst=some d) (hN:nlt d N=true)
 (h':DZ P N ops l dn (seg++[p]) (ys++[⟨⟨d,[(.tmp dj,t)],[],.tup [],[]⟩,[],none⟩]) base ⟨(d,.tup [])::sl,ob,nx⟩ K):DZ P N ops ((p,o)::l) dn seg ys base ⟨sl,ob,nx⟩ K:=OD (st:=⟨sl,ob,nx⟩) hg hj hdj ht hb hd hN h'
theorem cwx {d:Tmp} {ty:TypeId} {ps:String} {af:Array Edge} {gd:Option (Nat×Bool)} {f:FuncId} {args:List Operand} {tys:Array TypeId} {ob':List (Nat×Ob)} {o:Nat} {x0 x1 y:Ob} {ts ts':List T} {eqs:List (Nat×Nat)} {res:List RV} {out:T} {nw:List (Nat×Ob)} {n:Nat}
 (hF:FnW P f x1 ts' y res) (ht:xf sl args=some ts:=by exact rfl) (ho:go ob o=some x0:=by exact rfl) (hl:x0.loc=x1:=by exact rfl) (hfx:x0.free=true:=by exact rfl) (hfy:y.free=true:=by exact rfl) (ha:xN [] o ts=some (ts',eqs):=by exact rfl) (he:Eqs eqs:=by repeat (first|exact trivial|refine⟨by first|rfl|exact lm _|simp,?_⟩)) (hi:Bb nx res=some (out,nw,n):=by exact rfl) (hw:He nx nw n=true:=by exact rfl) (hN:nlt d N=true:=by exact rfl) (hob:apO nw ((o,y)::ob)=some ob':=by exact rfl):
 NX P N ⟨some d,.call ⟨.value (.func f),args.toArray,tys⟩,ty,ps,af,gd⟩ ⟨sl,ob,nx⟩ ⟨(d,out)::sl,ob',n⟩ ⟨⟨d,args.zip ts,[(o,x0)],out,nw⟩,[(o,y)],none⟩:=by
 subst hl
 rw[rP hob]
 obtain⟨t1,t2⟩:=oL ht
 exact⟨qw (JK hF t1 hfx hfy ha he hi),.inl ⟨rfl,cF hN⟩,t2,⟨ho,trivial⟩,yH hw,rfl⟩
theorem vy {cx:Cx} {E:Env} {w:World} {o b c:Nat} {cs:Array Value} (ok:cK cx E w) (hr:E.r o=some (b,c)) (hF:¬E.F b):cK cx E (w.setRow b cs):=by
 have hsz:(w.setRow b cs).heap.size=w.heap.size:=by simp
 refine⟨fun k hk=>by rw[hsz];exact ok.fb k hk,ok.gf,ok.gn,fun o b c h=>by rw[hsz];exact ok.rb o b c h,ok.inj,ok.os,ok.tape,ok.output,by rw[hsz];exact ok.size,fun k hk hW=>?_,ok.pin,ok.ff,fun k hg hk'=>(ok.gc k hg hk').of_eq (db w b k cs (fun e=>hF (by subst e;exact hg))),ok.sf.setRow hr⟩
 rw[db _ _ _ _ (fun e=>by
  subst e
  rcases(ok.rb o k c hr).2 with h|h
  ·omega
  ·exact hW h.1)]
 exact ok.block k hk hW
theorem ER {cx:Cx} {E:Env} {w:World} {o b c:Nat} {cs:Array Value} {ob':Ob} (ok:cK cx E w) (hr:E.r o=some (b,c)) (hF:¬E.F b):JE [(o,ob')] E w E (w.setRow b cs):=by
 refine⟨fun _ _ h=>h,fun _ h=>h,fun _ h=>h,fun _ h=>.inl h,fun k hk hne=>db w b k cs (fun e=>?_),fun l ob k c' hm h=>?_,rfl,rfl,rfl⟩
 ·subst e;exact hne o ob' c (by simp) hr
 ·simp at hm;obtain⟨rfl,_⟩:=hm;rw[hr] at h;cases h;exact hF
theorem spx {ty:TypeId} {ps:String} {af:Array Edge} {gd:Option (Nat×Bool)} {x y:Operand} {t:TypeId} {n o k:Nat} {vt:TypeId} {cs cs' ns:List C} {v:V} (q:Nat) (hq:Nat.ble N q=true:=by exact rfl) [ht:TyN P t n] (hx:opT sl x= .v (.c (.p o k)):=by exact rfl) (hy:opT sl y= .v v:=by exact rfl) (ho:go ob o=some (.var vt cs):=by exact rfl) (hv:vcs v=some ns:=by exact rfl)
 (hn:d0 ns.length n=true:=by exact rfl) (hst:ns.all C.sto=true:=by exact rfl) (hs:qo k ns cs=some cs':=by exact rfl):
 NX P N ⟨none,.store t x y,ty,ps,af,gd⟩ ⟨sl,ob,nx⟩ ⟨(q,.any)::sl,(o,.var vt cs')::ob,nx⟩ ⟨⟨q,[(x,.v (.c (.p o k))),(y,.v v)],[(o,.var vt cs)],.any,[]⟩,[(o,.var vt cs')],none⟩:=by
 refine⟨qw ?_,.inr ⟨rfl,Tu hq,rfl⟩,⟨hx,hy,trivial⟩,⟨ho,trivial⟩,rfl,rfl⟩
 intro cx E a w ok hne hnob hfr
 have h1:cvT E w (.v (.c (.p o k))) (a.eval x):=hne x _ (.head _)
 have h2:cvT E w (.v v) (a.eval y):=hne y _ (.tail _ (.head _))
 obtain⟨b,c,hr,hu⟩:=h1
 have h3:co E w o (.var vt cs):=hnob o _ (.head _)
 obtain⟨b',c',arr,hr',hh,hcv,hF⟩:=h3
 rw[hr] at hr';cases hr'
 have hvc:=D8 hv h2
 have hl1:=gz hvc
 have hl2:=gz hcv
 have hnn:=RU hn
 have hle:=(pp hs).2
 have hsz:(a.eval y).cells.size=n:=by simp at hl1;omega
 have hrun:=pt (P:=P) (t:=t) (n:=n) (k:=k) hsz (K1 hv hst h2) hh (by simp at hl2;omega)
 unfold Oper.wp
 simp only[execOp,hu,Sem.run_bind,hrun,Result.andThen_ok,Sem.run_pure,Oper.upon_skip,Act.put]
 have hk:=kj (cs:=(arr.toList.take k++(a.eval y).cells.toList++arr.toList.drop (k+n)).toArray) (w:=w) ok hr hF
 refine⟨undef,E,trivial,vy ok hr hF,?_,trivial,(fun _ _ h=>by cases h),fun l ob' hm=>?_,fun l p h=>.inl h⟩
 ·exact ER ok hr hF
 ·simp at hm;obtain⟨rfl,rfl⟩:=hm
  refine⟨b,c,_,hr,me _ hh,?_,hF⟩
  refine nC hk (wP hs hvc hcv ?_ fun i=>?_)
  ·simp at hl2 ⊢;omega
  ·rw[show(arr.toList.take k++(a.eval y).cells.toList++arr.toList.drop (k+n)).toArray.toList=arr.toList.take k++(a.eval y).cells.toList++arr.toList.drop (k+n) from rfl]
   exact ju (by simpa using hsz) (by simp at hl2 ⊢;omega) i
end
end Go.AM
namespace Go.AM
open Go.RowKit
def sw (p q l:Nat):Nat:=bif d0 l p then q else bif d0 l q then p else l
theorem CP (a b:Nat):d0 a b=decide (a=b):=by
 by_cases h:a=b
 ·subst h;simp
 ·rw[pB h];simp[h]
theorem AS (p q l:Nat):sw p q (sw p q l)=l:=by
 unfold sw
 simp only[CP]
 by_cases h1:l=p
 ·subst h1
  by_cases h2:q=l
  ·simp[h2]
  ·simp[h2]
 ·by_cases h2:l=q
  ·subst h2;simp[h1]
  ·simp[h1,h2]
theorem Ru {p q a b:Nat} (h:sw p q a=sw p q b):a=b:=by rw[←AS p q a,h,AS]
theorem Nz {p q:Nat} (hp:rsv p=false) (hq:rsv q=false) (l:Nat):(rsv l=true→sw p q l=l)∧(rsv (sw p q l)=true→sw p q l=l):=by
 unfold sw
 simp only[CP]
 by_cases h1:l=p
 ·subst h1;simp[hp,hq]
 ·by_cases h2:l=q
  ·subst h2;simp[h1,hp,hq]
  ·simp[h1,h2]
theorem sw_lt {p q n:Nat} (hp:p<n) (hq:q<n) {l:Nat} (h:sw p q l<n):l<n:=by
 rw[←AS p q l]
 generalize sw p q l=m at h
 unfold sw
 simp only[CP]
 by_cases h1:m=p
 ·subst h1;simp[hq]
 ·by_cases h2:m=q
  ·subst h2;simp[h1,hp]
  ·simp[h1,h2,h]
def swC (p q:Nat):C→C
 | .w o n=>.w (sw p q o) n
 | .wn o n=>.wn (sw p q o) n
 | .s o a b c=>.s (sw p q o) a b c
 | .p o k=>.p (sw p q o) k
 | .e o a b c=>.e (sw p q o) a b c
 |c=>c
def Px (p q:Nat):List C→List C
 |[]=>[]
 |c::cs=>swC p q c::Px p q cs
def swV (p q:Nat):V→V
 | .c c=>.c (swC p q c)
 | .agg cs=>.agg (Px p q cs)
def Rt (p q:Nat):List V→List V
 |[]=>[]
 |c::cs=>swV p q c::Rt p q cs
def swT (p q:Nat):T→T
 | .v v=>.v (swV p q v)
 | .tup vs=>.tup (Rt p q vs)
 | .any=>.any
def Rr (p q:Nat):Ob→Ob
 | .var t cs=>.var t (Px p q cs)
 |o=>o
def swS (p q:Nat):List (Nat×T)→List (Nat×T)
 |[]=>[]
 |(k,t)::r=>(k,swT p q t)::swS p q r
def swO (p q:Nat):List (Nat×Ob)→List (Nat×Ob)
 |[]=>[]
 |(k,t)::r=>(sw p q k,Rr p q t)::swO p q r
def Env.sw (E:Env) (p q:Nat):Env:={E with r:=fun l=>E.r (AM.sw p q l),n:=fun l=>E.n (AM.sw p q l)}
theorem Nx {E:Env} {w:World} {p q:Nat} {c:C} {u:Value} (h:cvC E w c u):cvC (E.sw p q) w (swC p q c) u:=by
 have e:∀o,(E.sw p q).r (sw p q o)=E.r o:=fun o=>by simp[Env.sw,AS]
 cases c with
 |w o n=>obtain⟨b,c,h1,h2⟩:=h;exact⟨b,c,(e o).trans h1,h2⟩
 |wn o n=>
  have e2:(E.sw p q).n (sw p q o)=E.n o:=by simp[Env.sw,AS]
  rcases h with⟨h1,h2⟩|⟨h0,b,c,h1,h2⟩
  ·exact .inl ⟨by rw[e2];exact h1,h2⟩
  ·exact .inr ⟨by rw[e2];exact h0,b,c,(e o).trans h1,h2⟩
 |s o a b c=>obtain⟨A,c',b',k,h1,h2⟩:=h;exact⟨A,c',b',k,(e o).trans h1,h2⟩
 |p o k=>obtain⟨b,c,h1,h2⟩:=h;exact⟨b,c,(e o).trans h1,h2⟩
 |e o a b c=>obtain⟨b',c',h1,h2⟩:=h;exact⟨b',c',(e o).trans h1,h2⟩
 |_=>exact h
theorem D4 {E:Env} {w:World} {p q:Nat}:∀{cs:List C} {us:List Value},CV E w cs us→CV (E.sw p q) w (Px p q cs) us
 |[],[],h=>h
 |[],_::_,h=>h.elim
 |_::_,[],h=>h.elim
 |_::_,_::_,h=>⟨Nx h.1,D4 h.2⟩
theorem Ny {E:Env} {w:World} {p q:Nat} {c:V} {u:Value} (h:cvV E w c u):cvV (E.sw p q) w (swV p q c) u:=by
 cases c with
 |c c=>exact Nx h
 |agg cs=>obtain⟨arr,h1,h2⟩:=h;exact⟨arr,h1,D4 h2⟩
theorem Js {E:Env} {w:World} {p q:Nat}:∀{cs:List V} {us:List Value},VV E w cs us→VV (E.sw p q) w (Rt p q cs) us
 |[],[],h=>h
 |[],_::_,h=>h.elim
 |_::_,[],h=>h.elim
 |_::_,_::_,h=>⟨Ny h.1,Js h.2⟩
theorem Rs {E:Env} {w:World} {p q:Nat} {t:T} {u:Value} (h:cvT E w t u):cvT (E.sw p q) w (swT p q t) u:=by
 cases t with
 |v v=>exact Ny h
 |tup vs=>obtain⟨arr,h1,h2⟩:=h;exact⟨arr,h1,Js h2⟩
 |any=>trivial
theorem Py {E:Env} {w:World} {p q o:Nat} {ob:Ob} (h:co E w (sw p q o) ob):co (E.sw p q) w o (Rr p q ob):=by
 cases ob with
 |var t cs=>obtain⟨b,c,arr,h1,h2,h3,h4⟩:=h;exact⟨b,c,arr,h1,h2,D4 h3,h4⟩
 |row t sz els g m=>exact h
 |rown t sz els g=>exact h
 |abs l y=>exact h
theorem L9 {p q:Nat}:∀(sl:List (Nat×T)) (k:Nat),gt (swS p q sl) k=swT p q (gt sl k)
 |[],k=>rfl
 |(j,t)::r,k=>by
  simp only[swS,gt]
  cases d0 j k
  ·exact L9 r k
  ·rfl
theorem L8 {p q:Nat}:∀(ob:List (Nat×Ob)) (o:Nat),go (swO p q ob) o=(go ob (sw p q o)).map (Rr p q)
 |[],o=>rfl
 |(j,t)::r,o=>by
  simp only[swO,go,CP]
  by_cases h:j=sw p q o
  ·subst h;simp[AS]
  ·have h2:sw p q j≠o:=fun e=>h (by rw[←e,AS])
   simp only[h,h2,decide_false,cond_false]
   exact L8 r o
theorem Gz {N p q nx:Nat} {sl:List (Nat×T)} {ob:List (Nat×Ob)} (hp:rsv p=false:=by exact rfl) (hq:rsv q=false:=by exact rfl) (hpn:nlt p nx=true:=by exact rfl) (hqn:nlt q nx=true:=by exact rfl):cZ N ⟨sl,ob,nx⟩ ⟨swS p q sl,swO p q ob,nx⟩:=by
 intro cx E a w hR
 have ok:=hR.ok
 refine⟨E.sw p q,⟨ok.fb,ok.gf,ok.gn,fun o b c h=>?_,fun o o' b c c' h h'=>Ru (ok.inj _ _ _ _ _ h h'),ok.os,ok.tape,ok.output,ok.size,ok.block,fun o x hr h=>?_,ok.ff,ok.gc,?_⟩,fun o x h=>sw_lt (cF hpn) (cF hqn) (hR.dom _ x h),fun o ob' h=>?_,fun k=>?_,hR.dfr,hR.size,hR.td⟩
 ·obtain⟨h1,h2⟩:=ok.rb _ b c h
  refine⟨h1,h2.imp id fun h3=>⟨h3.1,?_⟩⟩
  have:=(Nz hp hq o).2 h3.2
  rw[this] at h3;exact h3.2
 ·have h':E.r (sw p q o)=some x:=h
  rw[(Nz hp hq o).1 (Dz hr)] at h'
  exact ok.pin o x hr h'
 ·have sf:=ok.sf
  exact⟨fun l b h=>⟨(sf.tb l b h).1,(sf.tb l b h).2.1,fun o c=>(sf.tb l b h).2.2.1 _ c,(sf.tb l b h).2.2.2⟩,sf.tt,fun b h=>⟨(sf.zc b h).1,(sf.zc b h).2.1,fun o c=>(sf.zc b h).2.2.1 _ c,(sf.zc b h).2.2.2⟩,sf.zs,sf.ze⟩
 ·rw[L8] at h
  cases hg:go ob (sw p q o) with
  |none=>rw[hg] at h;cases h
  |some x=>rw[hg] at h;cases h;exact Py (hR.obs _ x hg)
 ·rw[L9];exact Rs (hR.sl k)
def wnC (o n:Nat):C→C
 | .w k m=>bif d0 k o then .w k n else .w k m
 | .wn k m=>bif d0 k o then .wn k n else .wn k m
 |c=>c
def N6 (o n:Nat):C→List (Nat×Nat)
 | .w k m=>bif d0 k o then [(m,n)] else []
 | .wn k m=>bif d0 k o then [(m,n)] else []
 |_=>[]
def N5 (o n:Nat):List C→List C
 |[]=>[]
 |c::cs=>wnC o n c::N5 o n cs
def GA (o n:Nat):List C→List (Nat×Nat)
 |[]=>[]
 |c::cs=>N6 o n c++GA o n cs
def wnT (o n:Nat):T→T
 | .v (.c c)=>.v (.c (wnC o n c))
 | .v (.agg cs)=>.v (.agg (N5 o n cs))
 |t=>t
def RQ (o n:Nat):T→List (Nat×Nat)
 | .v (.c c)=>N6 o n c
 | .v (.agg cs)=>GA o n cs
 |_=>[]
def wnS (o n:Nat):List (Nat×T)→List (Nat×T)
 |[]=>[]
 |(k,t)::r=>(k,wnT o n t)::wnS o n r
def KW (o n:Nat):List (Nat×T)→List (Nat×Nat)
 |[]=>[]
 |(_,t)::r=>RQ o n t++KW o n r
def wnO (o n:Nat):List (Nat×Ob)→List (Nat×Ob)
 |[]=>[]
 |(k,.var t cs)::r=>(k,.var t (N5 o n cs))::wnO o n r
 |p::r=>p::wnO o n r
def HV (o n:Nat):List (Nat×Ob)→List (Nat×Nat)
 |[]=>[]
 |(_,.var _ cs)::r=>GA o n cs++HV o n r
 |_::r=>HV o n r
theorem N4 {E:Env} {w:World} {o n:Nat} {c:C} {u:Value} (he:Eqs (N6 o n c)) (h:cvC E w c u):cvC E w (wnC o n c) u:=by
 cases c with
 |w k m=>
  simp only[wnC,N6] at he ⊢
  cases hk:d0 k o with
  |false=>exact h
  |true=>rw[hk] at he;have:m=n:=he.1;subst this;exact h
 |wn k m=>
  simp only[wnC,N6] at he ⊢
  cases hk:d0 k o with
  |false=>exact h
  |true=>rw[hk] at he;have:m=n:=he.1;subst this;exact h
 |_=>exact h
theorem Eb {E:Env} {w:World} {o n:Nat}:∀{cs:List C} {us:List Value},Eqs (GA o n cs)→CV E w cs us→CV E w (N5 o n cs) us
 |[],[],_,h=>h
 |[],_::_,_,h=>h.elim
 |_::_,[],_,h=>h.elim
 |_::_,_::_,he,h=>by obtain⟨h1,h2⟩:=dZ he;exact⟨N4 h1 h.1,Eb h2 h.2⟩
theorem RR {E:Env} {w:World} {o n:Nat} {t:T} {u:Value} (he:Eqs (RQ o n t)) (h:cvT E w t u):cvT E w (wnT o n t) u:=by
 cases t with
 |v v=>
  cases v with
  |c c=>exact N4 he h
  |agg cs=>obtain⟨arr,h1,h2⟩:=h;exact⟨arr,h1,Eb he h2⟩
 |_=>exact h
theorem N3 {N o n nx:Nat} {sl:List (Nat×T)} {ob:List (Nat×Ob)} (he:Eqs (KW o n sl)) (he2:Eqs (HV o n ob)):cZ N ⟨sl,ob,nx⟩ ⟨wnS o n sl,wnO o n ob,nx⟩:=by
 intro cx E a w hR
 refine⟨E,hR.ok,hR.dom,fun p x h=>?_,fun k=>?_,hR.dfr,hR.size,hR.td⟩
 ·have key:∀(ob:List (Nat×Ob)) (x:Ob),Eqs (HV o n ob)→go (wnO o n ob) p=some x→∃y,go ob p=some y∧(co E w p y→co E w p x):=by
   intro ob
   induction ob with
   |nil=>intro x _ h;cases h
   |cons q r ih=>
    intro x he h
    obtain⟨k,v⟩:=q
    cases v with
    |var t cs=>
     obtain⟨h1,h2⟩:=dZ (show Eqs (GA o n cs++HV o n r) from he)
     simp only[wnO,go] at h ⊢
     cases hk:d0 k p with
     |false=>rw[hk] at h;exact ih x h2 h
     |true=>
      rw[hk] at h
      cases h
      exact⟨_,rfl,fun⟨b,c,arr,k1,k2,k3,k4⟩=>⟨b,c,arr,k1,k2,Eb h1 k3,k4⟩⟩
    |row t sz els g m=>
     simp only[wnO,go] at h ⊢
     cases hk:d0 k p with
     |false=>rw[hk] at h;exact ih x he h
     |true=>rw[hk] at h;cases h;exact⟨_,rfl,id⟩
    |rown t sz els g=>
     simp only[wnO,go] at h ⊢
     cases hk:d0 k p with
     |false=>rw[hk] at h;exact ih x he h
     |true=>rw[hk] at h;cases h;exact⟨_,rfl,id⟩
    |abs l y=>
     simp only[wnO,go] at h ⊢
     cases hk:d0 k p with
     |false=>rw[hk] at h;exact ih x he h
     |true=>rw[hk] at h;cases h;exact⟨_,rfl,id⟩
  obtain⟨y,h1,h2⟩:=key ob x he2 h
  exact h2 (hR.obs p y h1)
 ·have key:∀(sl:List (Nat×T)),Eqs (KW o n sl)→(cvT E w (gt sl k) (a.tmps.getD k undef)→cvT E w (gt (wnS o n sl) k) (a.tmps.getD k undef)):=by
   intro sl
   induction sl with
   |nil=>intro _ h;exact h
   |cons q r ih=>
    intro he h
    obtain⟨j,t⟩:=q
    obtain⟨h1,h2⟩:=dZ (show Eqs (RQ o n t++KW o n r) from he)
    simp only[wnS,gt] at h ⊢
    cases hj:d0 j k with
    |false=>rw[hj] at h;exact ih h2 h
    |true=>rw[hj] at h;exact RR h1 h
  exact key sl he (hR.sl k)
theorem clo_w {N:Nat} {AQ:Exit→St→Prop} {e:Exit} {s m:St} [c:Clo N AQ] (hw:cZ N s m) (h:AQ e m):AQ e s:=c.h _ _ _ hw h
def nlC:C→C
 | .nil=>.d true (.l [])
 |c=>c
def Q5:List C→List C
 |[]=>[]
 |c::cs=>nlC c::Q5 cs
theorem Q4 {E:Env} {w:World} {c:C} {u:Value} (h:cvC E w c u):cvC E w (nlC c) u:=by
 cases c with
 |nil=>
  have h:u= .slice none 0 0:=h
  subst h
  show rdD _ _ _ _
  rw[rdD]
  exact⟨none,0,rfl,RX _,.inl rfl⟩
 |_=>exact h
theorem IV {E:Env} {w:World}:∀{cs:List C} {us:List Value},CV E w cs us→CV E w (Q5 cs) us
 |[],[],h=>h
 |[],_::_,h=>h.elim
 |_::_,[],h=>h.elim
 |_::_,_::_,h=>⟨Q4 h.1,IV h.2⟩
theorem N1 {N nx o:Nat} {sl:List (Nat×T)} {ob:List (Nat×Ob)} {ty:TypeId} {cs:List C} (ho:go ob o=some (.var ty cs):=by exact rfl):cZ N ⟨sl,ob,nx⟩ ⟨sl,(o,.var ty (Q5 cs))::ob,nx⟩:=by
 intro cx E a w hR
 refine⟨E,hR.ok,hR.dom,fun p x h=>?_,hR.sl,hR.dfr,hR.size,hR.td⟩
 by_cases hp:o=p
 ·subst hp
  rw[b8] at h;cases h
  obtain⟨b,c,arr,h1,h2,h3,h4⟩:=hR.obs o _ ho
  exact⟨b,c,arr,h1,h2,IV h3,h4⟩
 ·rw[bu _ _ hp] at h;exact hR.obs p x h
def ue (o n:Nat):List (Nat×T)→Option (List (Nat×T))
 |[]=>some []
 |(k,.v (.c c))::r=>match ue o n r with
  |some r'=>match c with
   | .w q m=>bif d0 q o then some ((k,.v (.c (.w q n)))::r') else some ((k,.v (.c (.w q m)))::r')
   | .wn q m=>bif d0 q o then some ((k,.v (.c (.wn q n)))::r') else some ((k,.v (.c (.wn q m)))::r')
   |c=>some ((k,.v (.c c))::r')
  |none=>none
 |(k,t)::r=>match ue o n r with
  |some r'=>some ((k,wnT o n t)::r')
  |none=>none
theorem JC {o n:Nat}:∀{sl sl':List (Nat×T)},ue o n sl=some sl'→sl'=wnS o n sl
 |[],sl',h=>by simp[ue] at h;subst h;rfl
 |(k,t)::r,sl',h=>by
  cases hr:ue o n r with
  |none=>
   exfalso
   cases t with
   |v v=>cases v<;>simp[ue,hr] at h
   |tup vs=>simp[ue,hr] at h
   |any=>simp[ue,hr] at h
  |some r'=>
   have:=JC hr
   subst this
   cases t with
   |v v=>
    cases v with
    |c c=>
     cases c with
     |w q m=>
      simp only[ue,hr] at h
      simp only[wnS,wnT,wnC]
      cases hq:d0 q o<;>rw[hq] at h<;>cases h<;>rfl
     |wn q m=>
      simp only[ue,hr] at h
      simp only[wnS,wnT,wnC]
      cases hq:d0 q o<;>rw[hq] at h<;>cases h<;>rfl
     |_=>simp only[ue,hr] at h;cases h;rfl
    |agg cs=>simp only[ue,hr] at h;cases h;rfl
   |tup vs=>simp only[ue,hr] at h;cases h;rfl
   |any=>simp only[ue,hr] at h;cases h;rfl
def Ed (o n:Nat):List (Nat×Ob)→Option (List (Nat×Ob))
 |[]=>some []
 |(k,.var t cs)::r=>match Ed o n r with
  |some r'=>some ((k,.var t (N5 o n cs))::r')
  |none=>none
 |p::r=>match Ed o n r with
  |some r'=>some (p::r')
  |none=>none
theorem JB {o n:Nat}:∀{sl sl':List (Nat×Ob)},Ed o n sl=some sl'→sl'=wnO o n sl
 |[],sl',h=>by simp[Ed] at h;subst h;rfl
 |(k,t)::r,sl',h=>by
  cases hr:Ed o n r with
  |none=>exfalso;cases t<;>simp[Ed,hr] at h
  |some r'=>
   have:=JB hr
   subst this
   cases t<;>simp only[Ed,hr] at h<;>cases h<;>rfl
theorem qr {N o n nx:Nat} {sl sl':List (Nat×T)} {ob ob':List (Nat×Ob)} (hs:ue o n sl=some sl':=by exact rfl) (ho:Ed o n ob=some ob':=by exact rfl) (he:Eqs (KW o n sl):=by repeat (first|exact trivial|refine⟨by first|rfl|simp,?_⟩)) (he2:Eqs (HV o n ob):=by repeat (first|exact trivial|refine⟨by first|rfl|simp,?_⟩)):cZ N ⟨sl,ob,nx⟩ ⟨sl',ob',nx⟩:=by
 rw[JC hs,JB ho];exact N3 he he2
end Go.AM
