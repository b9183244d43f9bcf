/- A part. -/
import Derived.Test.YtljhooecmjejiaaGreatE5
import Derived.Laws.IdiomStrings
set_option linter.unusedVariables false
set_option linter.unusedSimpArgs false
open Array renaming getD_eq_getD_getElem?→Td,getElem?_setIfInBounds_ne→Ud,replicate→SR,getElem?_eq_none→SY,getElem?_eq_getElem→Sj,setIfInBounds_comm→Ue,map_congr_left→Uf
open Bool renaming and_eq_true→hV,not_eq_true'→Tc,or_eq_false_iff→SX,or_eq_true→SU
open Nat renaming eq_of_beq_eq_true→RU,beq→d0,lt_or_ge→SV,le_refl→RX,lt_of_lt_of_le→SZ,zero_add→R9,lt_succ_of_lt→Ug,zero_le→Ta,min_eq_left→Tm,ne_of_lt→Uh
open List renaming length_map→To,getElem?_map→Ub,getElem?_append_right→Si,getElem?_set→Uc,getElem?_append_left→RY,length_append→Tq,getElem?_take→R7,map_append→TJ
namespace Go.AM
open Go.RowKit
def RC.frz:RC→RC
 | .own _ _ els _=>.d (.l els)
 |r=>r
def RV.frz:RV→RV
 | .c r=>.c r.frz
 | .agg rs=>.agg (rs.map RC.frz)
def RC.full:RC→Prop
 | .own _ _ els n=>els.length=n
 |_=>True
def GY:List RC→Prop
 |[]=>True
 |r::rs=>r.full∧GY rs
def RV.full:RV→Prop
 | .c r=>r.full
 | .agg rs=>GY rs
def CZ:List RV→Prop
 |[]=>True
 |r::rs=>r.full∧CZ rs
section
variable {w:World} {G G2:Nat→Prop} {base:Nat}
theorem M1 (hG:∀b,G b→G2 b) {r:RC} {u:Value} {bs:List (Nat×Nat)} (h:rcR w G base r u bs) (hf:r.full) (hb:∀p∈bs,G2 p.1):
 rcR w G2 base r.frz u []∧∀p∈bs,base≤p.1∧p.1<w.heap.size∧gA w p.1:=by
 cases r with
 |d x=>obtain⟨rfl,h⟩:=h;exact⟨⟨rfl,ci (fun _ _=>rfl) hG _ _ h⟩,by simp⟩
 |nil=>obtain⟨rfl,h⟩:=h;exact⟨⟨rfl,h⟩,by simp⟩
 |own ty sz els n=>
  obtain⟨b,c,arr,rfl,rfl,hh,h1,h2,h3,h4,h5,h6,h7⟩:=h
  have hf:els.length=n:=hf
  refine⟨⟨rfl,some ⟨b,0,none⟩,c,by rw[hf],h2,.inr ⟨b,0,rfl,hb _ (.head _),cd (fun _ _=>rfl) hG rfl _ _ h5⟩⟩,fun p hp=>?_⟩
  obtain rfl:=List.mem_singleton.1 hp
  exact⟨h7,OP hh,.mk hh⟩
theorem Je (hG:∀b,G b→G2 b):∀{rs:List RC} {us:List Value} {bs:List (Nat×Nat)},Bi w G base rs us bs→GY rs→(∀p∈bs,G2 p.1)→
 Bi w G2 base (rs.map RC.frz) us []∧∀p∈bs,base≤p.1∧p.1<w.heap.size∧gA w p.1
 |[],[],bs,h,_,_=>by have h:bs=[]:=h;subst h;exact⟨rfl,by simp⟩
 |r::rs,u::us,bs,⟨b1,b2,e,h1,h2⟩,hf,hb=>by
  subst e
  obtain⟨k1,k2⟩:=M1 hG h1 hf.1 (fun p hp=>hb p (by simp[hp]))
  obtain⟨k3,k4⟩:=Je hG h2 hf.2 (fun p hp=>hb p (by simp[hp]))
  exact⟨⟨[],[],rfl,k1,k3⟩,fun p hp=>(List.mem_append.1 hp).elim (k2 p) (k4 p)⟩
 |[],_::_,_,h,_,_=>h.elim
 |_::_,[],_,h,_,_=>h.elim
theorem Nb (hG:∀b,G b→G2 b) {r:RV} {u:Value} {bs:List (Nat×Nat)} (h:rvR w G base r u bs) (hf:r.full) (hb:∀p∈bs,G2 p.1):
 rvR w G2 base r.frz u []∧∀p∈bs,base≤p.1∧p.1<w.heap.size∧gA w p.1:=by
 cases r with
 |c r=>exact M1 hG h hf hb
 |agg rs=>
  obtain⟨arr,rfl,h⟩:=h
  obtain⟨k1,k2⟩:=Je hG h hf hb
  exact⟨⟨arr,rfl,k1⟩,k2⟩
theorem DB (hG:∀b,G b→G2 b):∀{rs:List RV} {us:List Value} {bs:List (Nat×Nat)},yq w G base rs us bs→CZ rs→(∀p∈bs,G2 p.1)→
 yq w G2 base (rs.map RV.frz) us []∧∀p∈bs,base≤p.1∧p.1<w.heap.size∧gA w p.1
 |[],[],bs,h,_,_=>by have h:bs=[]:=h;subst h;exact⟨rfl,by simp⟩
 |r::rs,u::us,bs,⟨b1,b2,e,h1,h2⟩,hf,hb=>by
  subst e
  obtain⟨k1,k2⟩:=Nb hG h1 hf.1 (fun p hp=>hb p (by simp[hp]))
  obtain⟨k3,k4⟩:=DB hG h2 hf.2 (fun p hp=>hb p (by simp[hp]))
  exact⟨⟨[],[],rfl,k1,k3⟩,fun p hp=>(List.mem_append.1 hp).elim (k2 p) (k4 p)⟩
 |[],_::_,_,h,_,_=>h.elim
 |_::_,[],_,h,_,_=>h.elim
theorem Pi (hG:∀b,G b→G2 b) {rs:List RV} {u:Value} {bs:List (Nat×Nat)} (h:uQ w G base rs u bs) (hf:CZ rs) (hb:∀p∈bs,G2 p.1):
 uQ w G2 base (rs.map RV.frz) u []∧∀p∈bs,base≤p.1∧p.1<w.heap.size∧gA w p.1:=by
 cases rs with
 |nil=>obtain⟨arr,hu,h⟩:=h;obtain⟨k1,k2⟩:=DB hG h hf hb;exact⟨⟨arr,hu,k1⟩,k2⟩
 |cons r rs=>
  cases rs with
  |nil=>exact Nb hG h hf.1 hb
  |cons r2 rs=>obtain⟨arr,hu,h⟩:=h;obtain⟨k1,k2⟩:=DB hG h hf hb;exact⟨⟨arr,hu,k1⟩,k2⟩
end
theorem Fn.frzs {P:Program} {f:FuncId} {args:List AV} {res:List RV} (h:Fn P f args res) (hf:CZ res):Fn P f args (res.map RV.frz):=by
 refine⟨h.enters,fun F w vals hF ht hA=>(h.calls F w vals hF ht hA).mono ?_⟩
 rintro e w' ⟨v,G,bs,he,hp,hG,hr,_⟩
 obtain⟨k1,k2⟩:=Pi (G2:=fun b=>G b∨∃p∈bs,p.1=b) (fun b h=>.inl h) hr hf (fun p hp=>.inr ⟨p,hp,rfl⟩)
 refine⟨v,_,[],he,hp,?_,k1,by simp⟩
 rintro b (hb|⟨p,hm,rfl⟩)
 ·exact hG b hb
 ·exact k2 p hm
theorem Ol {P:Program} {o:Oper} {needs:List (Operand×T)} {nob:List (Nat×Ob)} {q n e sz:Nat} {els:List (List D)} {g:Bool} {k:Nat} (hn:els.length=n)
 (h:AWK P o needs nob (.v (.c (.w q n))) [(q,.row e sz els g true)] [] (some k)):AWK P o needs nob (.v (.c (.d g (.l els)))) [(q,.row e sz els g false)] [] (some k):=by
 intro cx E a w ok hne hnob hfr
 obtain⟨hq1,hq2⟩:=hfr q _ (.head _)
 refine Oper.wp_mono ?_ (h cx E a w ok hne hnob (fun l x hm=>by simp at hm;obtain⟨rfl,_⟩:=hm;exact⟨hq1,hq2⟩))
 rintro a' w' ⟨v,E',k1,ok',k3,⟨b,c,hr,hv⟩,k5,k6,k7⟩
 obtain⟨b',c',arr,hr',hh,ha,hlc,hmx,hes,hrd,hFm,_⟩:=k5 q _ (.head _)
 rw[hr] at hr';cases hr'
 have hF:=hFm rfl
 obtain⟨hb1,hb2⟩:=ok'.rb q b c hr
 have hb3:cx.w0.heap.size≤b:=by
  rcases hb2 with h|h
  ·exact h
  ·rw[hq2] at h;cases h.2
 let E2:Env:=⟨E'.r,fun j=>E'.F j∨j=b,fun j=>E'.G j∨(g=true∧j=b),E'.T,E'.Z,E'.n⟩
 have hH:∀g' j,E'.H g' j→E2.H g' j:=fun g' j hj=>by cases g'<;>exact .inl hj
 have hold:∀l c',k≠l→E.r l≠some (b,c'):=fun l c' hkl hl=>by
  have h1:=k3.r l _ (by simpa using hkl) hl
  have:=ok'.inj _ _ _ _ _ h1 hr
  subst this
  rw[hq1] at hl;cases hl
 refine⟨v,E2,k1,⟨?_,?_,?_,ok'.rb,ok'.inj,ok'.os,ok'.tape,ok'.output,ok'.size,ok'.block,ok'.pin,fun j hj=>hj.elim (ok'.ff j) (fun e=>.inr (e▸hb3)),fun j hj hj'=>hj.elim (fun h=>ok'.gc j h hj') (fun e=>e▸.mk hh),
  ⟨fun l j h=>?_,ok'.sf.tt,fun j h=>?_,ok'.sf.zs,ok'.sf.ze⟩⟩,⟨k3.r,fun j hj=>.inl (k3.F j hj),fun j hj=>.inl (k3.G j hj),?_,k3.heap,k3.own,k3.ownk,k3.T,k3.Z,k3.n⟩,?_,fun l x hm=>?_,(fun _ _ h=>by cases h),fun l x hl=>?_⟩
 ·rintro j (h|rfl)
  ·exact ok'.fb j h
  ·exact hb1
 ·rintro j (h|⟨_,rfl⟩)
  ·exact .inl (ok'.gf j h)
  ·exact .inr rfl
 ·rintro j (h|⟨_,rfl⟩)
  ·exact ok'.gn j h
  ·exact .inl hb3
 ·obtain⟨h1,h2,h3,h4⟩:=ok'.sf.tb l j h
  exact⟨h1,fun hk=>hk.elim h2 (fun e=>by subst e;exact h3 q c hr),h3,h4⟩
 ·obtain⟨h1,h2,h3,h4⟩:=ok'.sf.zc j h
  exact⟨h1,fun hk=>hk.elim h2 (fun e=>by subst e;exact h3 q c hr),h3,h4⟩
 ·rintro j (h|rfl)
  ·exact k3.F' j h
  ·exact .inr (.inr (fun l c' hkl=>hold l c' (fun e=>hkl (by rw[e]))))
 ·refine⟨some ⟨b,0,none⟩,c,by rw[hv,hn],hlc,.inr ⟨b,0,rfl,?_,cd (fun _ _=>rfl) (hH g) rfl _ _ hrd⟩⟩
  cases g
  ·exact .inr rfl
  ·exact .inr ⟨rfl,rfl⟩
 ·simp at hm;obtain⟨rfl,rfl⟩:=hm
  exact⟨b,c,arr,hr,hh,ha,hlc,hmx,hes,cd (fun _ _=>rfl) (hH g) rfl _ _ hrd,(fun h=>by cases h),fun _=>⟨.inr rfl,fun hg=>.inr ⟨hg,rfl⟩⟩⟩
 ·rcases k7 l x hl with h|⟨ob,hm⟩
  ·exact .inl h
  ·simp at hm;obtain⟨rfl,_⟩:=hm;exact .inr ⟨_,.head _⟩
section
variable {P:Program} {N:Nat} {d:Tmp} {ty:TypeId} {ps:String} {af:Array Edge} {gd:Option (Nat×Bool)} {x y:Operand} {sl:List (Nat×T)} {ob:List (Nat×Ob)} {nx:Nat} {α:Type} {enc:α→List D}
theorem BA {t:TypeId} {e sz by_ o n nx':Nat} {ys zs:List α} {zd:List (List D)} {g gy:Bool} {c:C} {nob:List (Nat×Ob)} (ls:List Nat) [TySl P t e sz by_] (H:cS by_ (ys++zs).length=true) (hzd:zs.map enc=zd:=by exact rfl) (henc:∀a,(enc a).length=sz:=by exact fun _=>rfl) (hfl:∀a,ro (enc a)=true:=by exact fun _=>rfl)
 (hp:rv ob ls=some nob:=by exact rfl) (hd:nlt d N=true:=by exact rfl) (hx:opT sl x= .v (.c (.w o n)):=by exact rfl) (hy:opT sl y= .v (.c c):=by exact rfl) (hn:ys.length=n:=by first|rfl|simp) (hs:Src nob c zd gy:=by first|exact .d|exact .nil|exact .w rfl (by first|rfl|exact lm _|simp)|exact .wn rfl (by first|rfl|exact lm _|simp)) (ho:go nob o=some (.row e sz (ys.map enc) g true):=by exact rfl) (hrv:rsv o=false:=by exact rfl) (hnx:nxt nx=some nx':=by exact rfl):
 NX P N ⟨some d,.call ⟨.builtin .append,#[x,y],#[t,t]⟩,ty,ps,af,gd⟩ ⟨sl,ob,nx⟩ ⟨(d,.v (.c (.d true (.l ((ys++zs).map enc)))))::sl,(nx,.row e sz ((ys++zs).map enc) true false)::ob,nx'⟩
  ⟨⟨d,[(x,.v (.c (.w o n))),(y,.v (.c c))],nob,.v (.c (.d true (.l ((ys++zs).map enc)))),[(nx,.row e sz ((ys++zs).map enc) true false)]⟩,[],some o⟩:=by
 obtain⟨h1,h2,h3,h4,h5,h6⟩:=A4 (P:=P) (N:=N) (t:=t) (x:=x) (y:=y) (enc:=enc) (d:=d) (ty:=ty) (ps:=ps) (af:=af) (gd:=gd) (sl:=sl) (ob:=ob) (nx:=nx) ls H hzd henc hfl hp hd hx hy hn hs ho hrv hnx
 exact⟨Ol (by simp) h1,.inl ⟨rfl,cF hd⟩,h3,h4,lq hnx,rfl⟩
end
theorem eH {N nx o j:Nat} {sl:List (Nat×T)} {ob:List (Nat×Ob)} {vt:TypeId} {cs cs':List C} (ho:go ob o=some (.var vt cs):=by exact rfl) (hj:KH j (.d true (.l [])) cs=some cs':=by exact rfl):cZ N ⟨sl,ob,nx⟩ ⟨sl,(o,.var vt cs')::ob,nx⟩:=by
 intro cx E a w hR
 refine⟨E,hR.ok,hR.dom,fun l x hl=>?_,hR.sl,hR.dfr,hR.size,hR.td⟩
 by_cases e:o=l
 ·subst e
  rw[b8] at hl;cases hl
  obtain⟨b,c,arr,h1,h2,h3,h4⟩:=hR.obs o _ ho
  exact⟨b,c,arr,h1,h2,DL (x:=.d true (.l [])) ⟨none,0,rfl,RX _,.inl rfl⟩ hj h3 h3,h4⟩
 ·rw[bu _ _ e] at hl;exact hR.obs l x hl
section
variable {P:Program} {N:Nat} {ops:Array Oper} {p:Nat} {o:Oper} {l:List (Nat×Oper)} {dn seg:List Nat} {ys:List Inx} {base:St} {K:St→Prop}
theorem qz {ds:List Nat} {sl sl':List (Nat×T)} {ob ob':List (Nat×Ob)} {nx:Nat} {st0 st1 st2:St} (hs:wk ops dn seg ys=true) (hkl:kls ys=ds) (hA:zK ds sl ob=some (sl',ob')) (hb:Es ops (seg++dn) p=true)
 (hw:cZ N ⟨sl',ob',nx⟩ st0) (h:BO P N ops o st0 st1) (hw2:cZ N st1 st2) {dn':List Nat} (hlo:p::(seg++dn)=dn') (h':DZ P N ops l dn' [] [] st2 st2 K):DZ P N ops ((p,o)::l) dn seg ys base ⟨sl,ob,nx⟩ K:=by
 subst hlo
 exact .inr ⟨hs,hb,_,st0,st1,st2,zg hkl hA,hw,h,hw2,h'⟩
end
end Go.AM
namespace Go.AM
open Go.RowKit
structure KG (q l:Nat) (E:Env) (w:World) (E':Env) (w':World):Prop where
 r:∀o x,o≠q→E.r o=some x→E'.r o=some x
 H:∀g b,E.H g b→E'.H g b
 heap:∀g b,E.H g b→w'.heap[b]?=w.heap[b]?
 T:∀k b,k≠l→E.T k b→E'.T k b∧w'.heap[b]?=w.heap[b]?
 Z:∀b,E.Z b→E'.Z b∧nD w w' b
 n:∀o,o≠q→(E'.n o↔E.n o)
section
variable {q l:Nat} {E E':Env} {w w':World}
theorem Lx (x:KG q l E w E' w'):∀{c:C} {u:Value},c.has q=false→c.hasR l=false→cvC E w c u→cvC E' w' c u
 | .d g d,u,_,_,h=>ci (x.heap g) (x.H g) d u h
 | .w o n,u,ho,_,⟨b,c,h,hu⟩=>⟨b,c,x.r _ _ (gp ho) h,hu⟩
 | .s o sz off len,u,ho,_,⟨A,c,b,k,h,hu⟩=>⟨A,c,b,k,x.r _ _ (gp ho) h,hu⟩
 | .p o k,u,ho,_,⟨b,c,h,hu⟩=>⟨b,c,x.r _ _ (gp ho) h,hu⟩
 | .e o sz i j,u,ho,_,⟨b,c,h,hu⟩=>⟨b,c,x.r _ _ (gp ho) h,hu⟩
 | .q g y j,u,_,_,⟨b,k,hu,hb,h⟩=>⟨b,k,hu,x.H g b hb,rdL_mono (x.heap g) (x.H g) y b k hb h⟩
 | .fn f,u,_,_,h=>h
 | .nil,u,_,_,h=>h
 | .any,u,_,_,_=>trivial
 | .r k d,u,_,hl,h=>ci (fun b hb=>(x.T k b (gp hl) hb).2) (fun b hb=>(x.T k b (gp hl) hb).1) d u h
 | .z d,u,_,_,h=>p8 (fun b hb=>(x.Z b hb).2) (fun b hb=>(x.Z b hb).1) d u h
 | .zq y j,u,_,_,⟨b,k,hu,hb,h⟩=>⟨b,k,hu,(x.Z b hb).1,rsL_mono (fun b hb=>(x.Z b hb).2) (fun b hb=>(x.Z b hb).1) y b k hb h⟩
 | .wn o n,u,ho,_,.inl ⟨h1,h2⟩=>.inl ⟨(x.n o (gp ho)).2 h1,h2⟩
 | .wn o n,u,ho,_,.inr ⟨h1,b,c,h,hu⟩=>.inr ⟨fun k=>h1 ((x.n o (gp ho)).1 k),b,c,x.r _ _ (gp ho) h,hu⟩
theorem KY (x:KG q l E w E' w'):∀{cs:List C} {us:List Value},xL q cs=false→Fa l cs=false→CV E w cs us→CV E' w' cs us
 |[],[],_,_,_=>trivial
 |c::cs,u::us,h1,h2,h=>by
  simp only[xL,Fa,SX] at h1 h2
  exact⟨Lx x h1.1 h2.1 h.1,KY x h1.2 h2.2 h.2⟩
 |[],_::_,_,_,h=>h.elim
 |_::_,[],_,_,h=>h.elim
theorem LA (x:KG q l E w E' w') {v:V} {u:Value} (h1:v.has q=false) (h2:v.hasR l=false) (h:cvV E w v u):cvV E' w' v u:=by
 cases v with
 |c c=>exact Lx x h1 h2 h
 |agg cs=>obtain⟨arr,hu,h⟩:=h;exact⟨arr,hu,KY x h1 h2 h⟩
theorem PN (x:KG q l E w E' w'):∀{cs:List V} {us:List Value},BT q cs=false→C4 l cs=false→VV E w cs us→VV E' w' cs us
 |[],[],_,_,_=>trivial
 |c::cs,u::us,h1,h2,h=>by
  simp only[BT,C4,SX] at h1 h2
  exact⟨LA x h1.1 h2.1 h.1,PN x h1.2 h2.2 h.2⟩
 |[],_::_,_,_,h=>h.elim
 |_::_,[],_,_,h=>h.elim
theorem Qq (x:KG q l E w E' w') {t:T} {u:Value} (h1:t.has q=false) (h2:t.hasR l=false) (h:cvT E w t u):cvT E' w' t u:=by
 cases t with
 |v v=>exact LA x h1 h2 h
 |tup ts=>obtain⟨arr,hu,h⟩:=h;exact⟨arr,hu,PN x h1 h2 h⟩
 |any=>trivial
def Ob.hasR (l:Nat):Ob→Bool
 | .var _ cs=>Fa l cs
 | .abs j _=>d0 j l
 |_=>false
theorem M6 (x:KG q l E w E' w') {o:Nat} {ob:Ob} (ho:o≠q) (h1:ob.hasO q=false) (h2:ob.hasR l=false) (hb:∀b c,E.r o=some (b,c)→w'.heap[b]?=w.heap[b]?) (hF:∀b c,E.r o=some (b,c)→¬E.F b→¬E'.F b) (h:co E w o ob):co E' w' o ob:=by
 cases ob with
 |var ty cs=>
  obtain⟨b,c,arr,hr,hh',hc,hf⟩:=h
  exact⟨b,c,arr,x.r _ _ ho hr,(hb b c hr).trans hh',KY x h1 h2 hc,hF b c hr hf⟩
 |row ty sz els g m=>
  obtain⟨b,c,arr,hr,hh',a1,a2,a3,a4,a5,a6,a7⟩:=h
  exact⟨b,c,arr,x.r _ _ ho hr,(hb b c hr).trans hh',a1,a2,a3,a4,cd (x.heap g) (x.H g) (hb b c hr) _ _ a5,fun hm=>hF b c hr (a6 hm),fun hm=>⟨x.H false b (a7 hm).1,fun hg=>x.H true b ((a7 hm).2 hg)⟩⟩
 |rown ty sz els g=>
  rcases h with⟨h0,h1⟩|⟨h0,b,c,arr,hr,hh',a1,a2,a3,a4,a5,a6⟩
  ·exact .inl ⟨(x.n o ho).2 h0,h1⟩
  ·exact .inr ⟨fun h=>h0 ((x.n o ho).1 h),b,c,arr,x.r _ _ ho hr,(hb b c hr).trans hh',a1,a2,a3,a4,cd (x.heap g) (x.H g) (hb b c hr) _ _ a5,hF b c hr a6⟩
 |abs j y=>
  rcases h with⟨h0,h1⟩|⟨h0,b,c,hr,a1,a2⟩
  ·exact .inl ⟨(x.n o ho).2 h0,h1⟩
  ·exact .inr ⟨fun h=>h0 ((x.n o ho).1 h),b,c,x.r _ _ ho hr,y.st _ _ _ _ _ _ a1 (fun k hk=>(x.T j k (gp h2) hk).1) (hb b c hr) (fun k hk=>(x.T j k (gp h2) hk).2),hF b c hr a2⟩
end
def wY (o:Nat):List (Nat×Ob)→List (Nat×Ob)
 |[]=>[]
 |(k,x)::r=>bif d0 k o then wY o r else(k,x)::wY o r
theorem vu {o l:Nat} {x:Ob}:∀{ob:List (Nat×Ob)},go (wY o ob) l=some x→l≠o∧go ob l=some x
 |[],h=>by cases h
 |(k,y)::r,h=>by
  rw[wY] at h
  cases hk:d0 k o with
  |true=>
   rw[hk] at h
   obtain⟨h1,h2⟩:=vu h
   have:=RU hk;subst this
   exact⟨h1,by rw[bu _ _ (Ne.symm h1)];exact h2⟩
  |false=>
   rw[hk] at h
   by_cases e:k=l
   ·subst e
    simp only[cond_false] at h
    rw[b8] at h ⊢;exact⟨gp hk,h⟩
   ·simp only[cond_false] at h
    rw[bu _ _ e] at h ⊢;exact vu h
def okO (q l:Nat):List (Nat×Ob)→Bool
 |[]=>true
 |(_,x)::r=>(!x.hasO q&&!x.hasR l)&&okO q l r
theorem MM {q l o:Nat} {x:Ob}:∀{ob:List (Nat×Ob)},okO q l ob=true→go ob o=some x→x.hasO q=false∧x.hasR l=false
 |[],_,h=>by cases h
 |(k,y)::r,h0,h=>by
  simp only[okO,hV,Tc] at h0
  by_cases e:k=o
  ·subst e;rw[b8] at h;cases h;exact h0.1
  ·rw[bu _ _ e] at h;exact MM h0.2 h
theorem Du {N:Nat} {cx cx':Cx} {E E':Env} {st:St} {a:Act} {w w':World} {q l o nx':Nat} {sl1 sl2:List (Nat×T)} {ob1:List (Nat×Ob)} {y:Ob} (hR:Rel N cx E st a w) (ok':cK cx' E' w') (kg:KG q l E w E' w')
 (h1:lU q st.sl=some sl1) (h2:xJ l sl1=some sl2) (h3:wY q (wY o st.ob)=ob1) (h4:okO q l ob1=true) (hy:co E' w' o y)
 (hb:∀k b c,k≠q→k≠o→E.r k=some (b,c)→w'.heap[b]?=w.heap[b]?) (hF:∀k b c,k≠q→k≠o→E.r k=some (b,c)→¬E.F b→¬E'.F b) (hdom:∀o x,E'.r o=some x→o<nx') (htd:∀l b,E'.T l b→l<nx'):
 Rel N cx' E' ⟨sl2,(o,y)::ob1,nx'⟩ a w':=by
 subst h3
 refine⟨ok',hdom,fun k x hk=>?_,fun k=>?_,hR.dfr,hR.size,htd⟩
 ·by_cases e:o=k
  ·subst e
   rw[b8] at hk;cases hk;exact hy
  ·rw[bu _ _ e] at hk
   obtain⟨k1,k2⟩:=MM h4 hk
   obtain⟨k3,k4⟩:=vu hk
   obtain⟨k5,k6⟩:=vu k4
   exact M6 kg k3 k1 k2 (fun b c hr=>hb k b c k3 k5 hr) (fun b c hr=>hF k b c k3 k5 hr) (hR.obs k x k6)
 ·rcases EM h2 k with e|⟨e1,e2⟩
  ·show cvT E' w' (gt sl2 k) _;rw[e];trivial
  ·rcases sx h1 k with e|⟨e3,e4⟩
   ·show cvT E' w' (gt sl2 k) _;rw[e1,e];trivial
   ·show cvT E' w' (gt sl2 k) _
    rw[e1,e3]
    exact Qq kg e4 (by rw[e3] at e2;exact e2) (hR.sl k)
def nv:Option (Nat×Nat)→Nat→Value
 |none,_=>.slice none 0 0
 |some (k,c),n=>.slice (some ⟨k,0,none⟩) n c
def yT (w:World) (nt:TypeId) (k c:Nat) (xs:List Int):Prop:=(∃arr,w.heap[k]?=some (.cells arr nt (0,0))∧arr.size=c)∧xs.length≤c∧c≤maxLen∧∀j x,xs[j]?=some x→w.cell? ⟨k,j,none⟩=some (.int .i64 x)
def HY (w:World) (R:Nat→Prop) (nt:TypeId):Option (Nat×Nat)→List Int→Prop
 |none,xs=>xs=[]
 |some (k,c),xs=>R k∧yT w nt k c xs
theorem yT.rd {w:World} {nt:TypeId} {k c:Nat} {xs:List Int} (h:yT w nt k c xs) (F:Nat→Prop):rdLL w F (xs.map eI) k 0:=by
 refine qH (sz:=1) (by simp[eI]) fun i e hi=>?_
 rw[Ub] at hi
 cases hx:xs[i]? with
 |none=>rw[hx] at hi;cases hi
 |some x=>
  rw[hx] at hi;cases hi
  rw[eI,rdL,rdL]
  exact⟨⟨_,by simpa using h.2.2.2 i x hx,by rw[rdD]⟩,trivial⟩
theorem yT.of {w:World} {nt:TypeId} {k c:Nat} {xs:List Int} {F:Nat→Prop} {arr:Array Value} (hh:w.heap[k]?=some (.cells arr nt (0,0))) (ha:arr.size=c*1) (hl:(xs.map eI).length≤c) (hc:c≤maxLen) (h:rdLL w F (xs.map eI) k 0):yT w nt k c xs:=by
 refine⟨⟨arr,hh,by omega⟩,by simpa using hl,hc,fun j x hx=>?_⟩
 have:=mW (sz:=1) (i:=j) (e:=eI x) h (by simp[eI]) (by rw[Ub,hx];rfl)
 rw[eI,rdL] at this
 obtain⟨u,h1,h2⟩:=this.1
 rw[rdD] at h2;subst h2
 simpa using h1
theorem yT.keep {w w':World} {nt:TypeId} {k c:Nat} {xs:List Int} (h:yT w nt k c xs) (hk:w'.heap[k]?=w.heap[k]?):yT w' nt k c xs:=by
 obtain⟨⟨arr,h1,h2⟩,h3,h4,h5⟩:=h
 exact⟨⟨arr,hk.trans h1,h2⟩,h3,h4,fun j x hx=>(qx hk).trans (h5 j x hx)⟩
theorem HY.keep {w w':World} {R R':Nat→Prop} {nt:TypeId} {h:Option (Nat×Nat)} {xs:List Int} (hn:HY w R nt h xs) (hR:∀k c,h=some (k,c)→R k→R' k) (hk:∀k c,h=some (k,c)→R k→w'.heap[k]?=w.heap[k]?):HY w' R' nt h xs:=by
 cases h with
 |none=>exact hn
 |some p=>exact⟨hR _ _ rfl hn.1,hn.2.keep (hk _ _ rfl hn.1)⟩
def Hid.loc (nt:TypeId) (A:Option Addr) (n c:Nat) (xs:List Int):Hid where
 nl:=A=none∧n=0∧c=0∧xs=[]
 S:=fun b k R w=>A=some ⟨b,0,none⟩∧c=k∧n=xs.length∧yT w nt b k xs
 st:=by
  rintro b c' R R' w w' ⟨h1,h2,h3,h4⟩ hR hb hk
  exact⟨h1,h2,h3,h4.keep hb⟩
abbrev GE:=Option (Nat×Option Addr×Nat×Nat)
def uK:GE→Nat→Bool
 |none,_=>false
 |some (j,_),i=>d0 j i
structure CxS (ty nt:TypeId) (els:List (Int×List Int)) (ho:GE) (b c:Nat) (R:Nat→Prop) (w:World) (hd:Nat→Option (Nat×Nat)):Prop where
 blk:∃arr,w.heap[b]?=some (.cells arr ty (0,0))∧arr.size=c*2
 len:els.length≤c
 cap:c≤maxLen
 a:∀i e,els[i]?=some e→w.cell? ⟨b,i*2,none⟩=some (.int .i64 e.1)
 s:∀i e,els[i]?=some e→uK ho i=false→w.cell? ⟨b,i*2+1,none⟩=some (nv (hd i) e.2.length)
 ne:∀i e,els[i]?=some e→uK ho i=false→HY w R nt (hd i) e.2
 inj:∀i j k c c',i<els.length→j<els.length→uK ho i=false→uK ho j=false→hd i=some (k,c)→hd j=some (k,c')→i=j
 h:∀i A n k,ho=some (i,A,n,k)→w.cell? ⟨b,i*2+1,none⟩=some (.slice A n k)
def Hid.cx (ty nt:TypeId) (els:List (Int×List Int)) (ho:GE):Hid where
 nl:=els=[]
 S:=fun b c R w=>∃hd,CxS ty nt els ho b c R w hd
 st:=by
  rintro b c R R' w w' ⟨hd,h⟩ hR hb hk
  obtain⟨⟨arr,h1,h2⟩,h3,h4,h5,h6,h7,h8,h9⟩:=h
  exact⟨hd,⟨arr,hb.trans h1,h2⟩,h3,h4,fun i e hi=>(qx hb).trans (h5 i e hi),fun i e hi hh=>(qx hb).trans (h6 i e hi hh),fun i e hi hh=>(h7 i e hi hh).keep (fun k _ _ hk=>hR k hk) (fun k _ _ h=>hk k h),h8,fun i A n k hh=>(qx hb).trans (h9 i A n k hh)⟩
abbrev Ob.cxo (o:Nat) (ty nt:TypeId) (els:List (Int×List Int)) (ho:GE):Ob:=.abs o (Hid.cx ty nt els ho)
section
variable {P:Program} {d:Option Tmp} {tt:TypeId} {ps:String} {af:Array Edge} {gd:Option (Nat×Bool)} {x y:Operand}
theorem yD {E:Env} {w:World} {o:Nat} {ty nt:TypeId} {els:List (Int×List Int)} {ho:GE} {i:Nat} {e:Int×List Int} (he:els[i]?=some e) (h:co E w o (.cxo o ty nt els ho)):
 ¬E.n o∧∃b c hd,E.r o=some (b,c)∧CxS ty nt els ho b c (E.T o) w hd∧¬E.F b:=by
 rcases h with⟨_,h1⟩|⟨h0,b,c,hr,⟨hd,h1⟩,h2⟩
 ·have h1:els=[]:=h1
  subst h1;simp at he
 ·exact⟨h0,b,c,hd,hr,h1,h2⟩
theorem Kh {t:TypeId} {o i:Nat} {ty nt:TypeId} {els:List (Int×List Int)} {ho:GE} {e:Int×List Int} [TySc P t] (he:els[i]?=some e) (hh:uK ho i=false):
 AWN P ⟨d,.load t x,tt,ps,af,gd⟩ [(x,.v (.c (.e o 2 i 1)))] [(o,.cxo o ty nt els ho)] (.v (.c (.r o (.l (e.2.map eI))))) []:=
 bY fun E ac w hn hb=>by
  obtain⟨b,c',hr,hu⟩:=hn x _ (.head _)
  obtain⟨_,b',c'',hd,hr',hS,_⟩:=yD he (hb o _ (.head _))
  rw[hr] at hr';cases hr'
  refine⟨nv (hd i) e.2.length,by simp[execOp,hu,jG (P:=P) (t:=t) (hS.s i e he hh)],?_⟩
  have hne:=hS.ne i e he hh
  show rdD w (E.T o) (.l (e.2.map eI)) _
  cases hdi:hd i with
  |none=>
   rw[hdi] at hne
   have hne:e.2=[]:=hne
   rw[hne];exact⟨none,0,rfl,RX _,.inl rfl⟩
  |some p=>
   obtain⟨k,cc⟩:=p
   rw[hdi] at hne
   exact⟨some ⟨k,0,none⟩,cc,by simp[nv],by simpa using hne.2.2.1,.inr ⟨k,0,rfl,hne.1,hne.2.rd _⟩⟩
theorem Fq {t:TypeId} {o i:Nat} {ty nt:TypeId} {els:List (Int×List Int)} {A:Option Addr} {n k:Nat} {e:Int×List Int} [TySc P t] (he:els[i]?=some e):
 AWN P ⟨d,.load t x,tt,ps,af,gd⟩ [(x,.v (.c (.e o 2 i 1)))] [(o,.cxo o ty nt els (some (i,A,n,k)))] (.v (.c (.d false (.k A n k)))) []:=
 bY fun E ac w hn hb=>by
  obtain⟨b,c',hr,hu⟩:=hn x _ (.head _)
  obtain⟨_,b',c'',hd,hr',hS,_⟩:=yD he (hb o _ (.head _))
  rw[hr] at hr';cases hr'
  exact⟨.slice A n k,by simp[execOp,hu,jG (P:=P) (t:=t) (hS.h i A n k rfl)],by show rdD _ _ _ _;rw[rdD]⟩
end
end Go.AM
namespace Go.AM
open Go.RowKit
section
variable {P:Program} {N:Nat} {d:Tmp} {tt:TypeId} {ps:String} {af:Array Edge} {gd:Option (Nat×Bool)} {x y:Operand} {sl sl1 sl2:List (Nat×T)} {ob ob1:List (Nat×Ob)} {nx:Nat}
theorem Ns {nob:List (Nat×Ob)} {c:C} {ys:List (List D)} {g:Bool} {q l:Nat} {h:Hid} {z:Ob} (hs:Src nob c ys g) (hq:go nob q=some (.abs l h)):Src ((q,z)::nob) c ys g:=by
 cases hs with
 |d=>exact .d
 |nil=>exact .nil
 |w h1 hn=>exact .w (by rw[bu _ _ (fun e=>by subst e;rw[hq] at h1;cases h1)];exact h1) hn
 |s h1 hn=>exact .s (by rw[bu _ _ (fun e=>by subst e;rw[hq] at h1;cases h1)];exact h1) hn
 |wn h1 hn=>exact .wn (by rw[bu _ _ (fun e=>by subst e;rw[hq] at h1;cases h1)];exact h1) hn
theorem C5 {t:TypeId} {nt by_ q p n c l:Nat} {k:Nat} {xs:List Int} {ys:List (List D)} {gy:Bool} {cc:C} {nob:List (Nat×Ob)} [ht:TySl P t nt 1 by_] (hrv:rsv q=false)
 (ho:go nob q=some (.abs l (Hid.loc nt (some ⟨k,0,none⟩) n c xs))) (hs:Src nob cc ys gy) (hn:xs.length=n) (hsz:∀e∈ys,e.length=1) (hb:(n+ys.length)*by_≤140737488355328) (h63:n+ys.length≤9223372036854775807):
 AWK P ⟨some d,.call ⟨.builtin .append,#[x,y],#[t,t]⟩,tt,ps,af,gd⟩ [(x,.v (.c (.d false (.k (some ⟨k,0,none⟩) n c)))),(y,.v (.c cc))] nob (.v (.c (.w p (n+ys.length)))) [(p,.row nt 1 (xs.map eI++ys) (true&&gy) true)] [] (some q):=by
 intro cx E a w ok hne hnob hfr
 have hq:=hnob q _ (uJ ho)
 rcases hq with⟨_,h1⟩|⟨_,b,c',hr,⟨h1,h2,h3,⟨⟨arr,h4,h5⟩,h6,h7,h8⟩⟩,hF⟩
 ·have h1:some (⟨k,0,none⟩:Addr)=none∧_:=h1
  cases h1.1
 ·cases h1
  subst h2
  have hrow:co E w q (.row nt 1 (xs.map eI) true true):=⟨k,c,arr,hr,h4,by omega,by simpa using h6,h7,by simp[eI],yT.rd ⟨⟨arr,h4,h5⟩,h6,h7,h8⟩ _,fun _=>hF,fun h=>by cases h⟩
  refine Ff (P:=P) (d:=d) (ty:=tt) (ps:=ps) (af:=af) (gd:=gd) (x:=x) (y:=y) (t:=t) (e:=nt) (sz:=1) (by_:=by_) (o:=q) (q:=p) (n:=n) (els:=xs.map eI) (g:=true) (nob:=(q,.row nt 1 (xs.map eI) true true)::nob) hrv (b8 _ _ _) (Ns hs ho) (by simpa using hn) hsz hb h63 cx E a w ok (fun x' t' hm=>?_) (fun l' ob' hm=>?_) hfr
  ·rcases List.mem_cons.1 hm with e|hm
   ·cases e
    have:=hne x _ (.head _)
    have:a.eval x= .slice (some ⟨k,0,none⟩) n c:=this
    exact⟨k,c,hr,this⟩
   ·exact hne x' t' (.tail _ hm)
  ·rcases List.mem_cons.1 hm with e|hm
   ·cases e;exact hrow
   ·exact hnob l' ob' hm
theorem apk {t:TypeId} {nt by_ q n c l nx':Nat} {k:Nat} {xs zs:List Int} {zd:List (List D)} {cc:C} {nob:List (Nat×Ob)} (ls:List Nat) [TySl P t nt 1 by_] (H:cS by_ (xs++zs).length=true) (hzd:zs.map eI=zd) (hn:xs.length=n)
 (hp:rv ob ls=some nob) (hs:Src nob cc zd true) (hd:nlt d N=true) (hx:opT sl x= .v (.c (.d false (.k (some ⟨k,0,none⟩) n c)))) (hy:opT sl y= .v (.c cc)) (ho:go nob q=some (.abs l (Hid.loc nt (some ⟨k,0,none⟩) n c xs))) (hrv:rsv q=false) (hnx:nxt nx=some nx'):
 NX P N ⟨some d,.call ⟨.builtin .append,#[x,y],#[t,t]⟩,tt,ps,af,gd⟩ ⟨sl,ob,nx⟩ ⟨(d,.v (.c (.w nx (xs++zs).length)))::sl,(nx,.row nt 1 ((xs++zs).map eI) true true)::ob,nx'⟩
  ⟨⟨d,[(x,.v (.c (.d false (.k (some ⟨k,0,none⟩) n c)))),(y,.v (.c cc))],nob,.v (.c (.w nx (xs++zs).length)),[(nx,.row nt 1 ((xs++zs).map eI) true true)]⟩,[],some q⟩:=by
 subst hzd
 simp only[cS,decide_eq_true_eq,Tq] at H
 have:=C5 (P:=P) (d:=d) (tt:=tt) (ps:=ps) (af:=af) (gd:=gd) (x:=x) (y:=y) (t:=t) (nt:=nt) (by_:=by_) (p:=nx) (n:=n) hrv ho hs hn (by simp[eI]) (by subst hn;simp only[To];exact H.1) (by subst hn;simp only[To];omega)
 rw[←TJ,To,←hn,←Tq] at this
 exact⟨by subst hn;exact this,.inl ⟨rfl,cF hd⟩,⟨hx,hy,trivial⟩,p3 hp,lq hnx,rfl⟩
theorem apNk {t:TypeId} {nt by_ nx':Nat} {zs:List Int} {zd:List (List D)} {cc:C} {nob:List (Nat×Ob)} (ls:List Nat) [TySl P t nt 1 by_] (H:cS by_ zs.length=true) (hne:zs≠[]) (hzd:zs.map eI=zd)
 (hp:rv ob ls=some nob) (hs:Src nob cc zd true) (hd:nlt d N=true) (hx:opT sl x= .v (.c (.d false (.k none 0 0)))) (hy:opT sl y= .v (.c cc)) (hnx:nxt nx=some nx'):
 NS P N ⟨some d,.call ⟨.builtin .append,#[x,y],#[t,t]⟩,tt,ps,af,gd⟩ ⟨sl,ob,nx⟩ ⟨(d,.v (.c (.w nx zs.length)))::sl,(nx,.row nt 1 (zs.map eI) true true)::ob,nx'⟩
  ⟨d,[(x,.v (.c (.d false (.k none 0 0)))),(y,.v (.c cc))],nob,.v (.c (.w nx zs.length)),[(nx,.row nt 1 (zs.map eI) true true)]⟩:=by
 subst hzd
 simp only[cS,decide_eq_true_eq] at H
 have h1:=Df (P:=P) (d:=d) (ty:=tt) (ps:=ps) (af:=af) (gd:=gd) (x:=x) (y:=y) (t:=t) (e:=nt) (sz:=1) (by_:=by_) (q:=nx) hs (by simpa using hne) (by simp[eI]) (by simpa using H.1) (by simpa using H.2)
 rw[To] at h1
 refine⟨fun cx E a w ok hnd hnob hfr=>h1 cx E a w ok (fun x' t' hm=>?_) hnob hfr,rfl,cF hd,⟨hx,hy,trivial⟩,p3 hp,lq hnx,rfl⟩
 rcases List.mem_cons.1 hm with e|hm
 ·cases e
  have h:a.eval x= .slice none 0 0:=hnd x (.v (.c (.d false (.k none 0 0)))) (.head _)
  exact h
 ·exact hnd x' t' (.tail _ hm)
end
end Go.AM
namespace Go.AM
open Go.RowKit
section
variable {P:Program} {N:Nat} {d:Tmp} {tt:TypeId} {ps:String} {af:Array Edge} {gd:Option (Nat×Bool)} {x y:Operand} {sl sl1 sl2:List (Nat×T)} {ob ob1:List (Nat×Ob)} {nx:Nat} {AQ:Exit→St→Prop}
theorem Fx {t:TypeId} {o i s n:Nat} {ty nt:TypeId} {els:List (Int×List Int)} {hole:GE} {e:Int×List Int} {ys:List Int} {g:Bool} [ht:TyN P t 1] (hx:opT sl x= .v (.c (.e o 2 i 1))) (hy:opT sl y= .v (.c (.w s n))) (ho:go ob o=some (.cxo o ty nt els hole)) (hs:go ob s=some (.row nt 1 (ys.map eI) g true))
 (hn:ys.length=n) (he:els[i]?=some e) (hh:hole=none∨∃A n k,hole=some (i,A,n,k)) (hrv:rsv s=false) (hso:d0 s o=false) (hol:nlt o nx=true) (h1:lU s sl=some sl1) (h2:xJ s sl1=some sl2) (h3:wY s (wY o ob)=ob1) (h4:okO s s ob1=true):
 AWO P N ⟨none,.store t x y,tt,ps,af,gd⟩ ⟨sl,ob,nx⟩ ⟨sl2,(o,.cxo o ty nt (els.set i (e.1,ys)) none)::ob1,nx⟩:=by
 intro cx E a w hR
 have hx1:=hR.op x;rw[hx] at hx1
 have hy1:=hR.op y;rw[hy] at hy1
 have ok:=hR.ok
 obtain⟨b,c,hr,hu⟩:=hx1
 obtain⟨hnn,b',c',hd,hr',hS,hF⟩:=yD he (hR.obs o _ ho)
 rw[hr] at hr';cases hr'
 obtain⟨bs,cs,hrs,hv⟩:=hy1
 obtain⟨bs',cs',arrs,hrs',hhs,has,hls,hcs,_,hrds,hFs,_⟩:=hR.obs s _ hs
 rw[hrs] at hrs';cases hrs'
 have hFs:=hFs rfl
 have hso:s≠o:=gp hso
 have hbb:bs≠b:=fun e=>by subst e;exact hso (ok.inj _ _ _ _ _ hrs hr)
 have hil:i<els.length:=(List.getElem?_eq_some_iff.1 he).1
 have hrow:=yT.of hhs has hls hcs hrds
 obtain⟨arr,hh0,ha0⟩:=hS.blk
 have hvc:(a.eval y).cells= #[a.eval y]:=by rw[hv];rfl
 have hbound:i*2+1+1≤arr.size:=by have:=hS.len;omega
 have hrun:=pt (P:=P) (t:=t) (n:=1) (k:=i*2+1) (u:=a.eval y) (w:=w) (b:=b) (by rw[hvc];rfl) (by rw[hvc];simp;rw[hv];rfl) hh0 hbound
 unfold Oper.wp
 simp only[execOp,hu,Sem.run_bind,hrun,Result.andThen_ok,Sem.run_pure,Oper.upon_skip,Act.put]
 obtain⟨arr',harr'⟩:∃arr',arr'=(arr.toList.take (i*2+1)++(a.eval y).cells.toList++arr.toList.drop (i*2+1+1)).toArray:=⟨_,rfl⟩
 rw[←harr']
 have hsz':arr'.size=arr.size:=by rw[harr',hvc];simp;omega
 have hget:∀j,arr'[j]?=if j=i*2+1 then some (a.eval y) else arr[j]?:=by
  intro j
  rw[harr',List.getElem?_toArray,ju (by rw[hvc];rfl) (by simpa using hbound),hvc]
  by_cases hj:j=i*2+1
  ·subst hj;simp
  ·rw[if_neg (by simp;omega),if_neg hj];simp
 have hw':=me arr' hh0
 have hcell:∀j,j≠i*2+1→(w.setRow b arr').cell? ⟨b,j,none⟩=w.cell? ⟨b,j,none⟩:=fun j hj=>by rw[ey hw',ey hh0,hget,if_neg hj]
 have ok1:cK cx E (w.setRow b arr'):=vy ok hr hF
 have hk:=kj (cs:=arr') (w:=w) ok hr hF
 have hTb:∀l k,E.T l k→k≠b:=fun l k h e=>by subst e;exact(ok.sf.tb l k h).2.2.1 o c hr
 have hTs:∀l,¬E.T l bs:=fun l h=>(ok.sf.tb l bs h).2.2.1 s cs hrs
 have hsb:=ok1.rb s bs cs hrs
 have hnew:cx.w0.heap.size≤bs:=hsb.2.resolve_right (fun h=>by rw[hrv] at h;cases h.2)
 obtain⟨E',hE'⟩:∃E':Env,E'={E with r:=fun l=>if l=s then none else E.r l,T:=fun l k=>E.T l k∨(l=o∧k=bs)}:=⟨_,rfl⟩
 have e_r:∀l p,E'.r l=some p↔l≠s∧E.r l=some p:=fun l p=>by
  subst hE'
  show(if l=s then none else E.r l)=some p↔_
  split
  ·rename_i h;simp[h]
  ·rename_i h;simp[h]
 have e_T:∀l k,E'.T l k↔E.T l k∨(l=o∧k=bs):=fun l k=>by subst hE';exact Iff.rfl
 have e_F:E'.F=E.F:=by subst hE';rfl
 have e_G:E'.G=E.G:=by subst hE';rfl
 have e_Z:E'.Z=E.Z:=by subst hE';rfl
 have e_n:E'.n=E.n:=by subst hE';rfl
 have e_H:∀g,E'.H g=E.H g:=fun g=>by cases g;exact e_F;exact e_G
 have ok':cK cx E' (w.setRow b arr'):=by
  refine⟨by rw[e_F];exact ok1.fb,by rw[e_F,e_G];exact ok1.gf,by rw[e_G];exact ok1.gn,fun l b c h=>ok1.rb l b c ((e_r _ _).1 h).2,fun l l' b c c' h h'=>ok1.inj l l' b c c' ((e_r _ _).1 h).2 ((e_r _ _).1 h').2,ok1.os,ok1.tape,ok1.output,ok1.size,ok1.block,fun l p hp h=>ok1.pin l p hp ((e_r _ _).1 h).2,by rw[e_F];exact ok1.ff,by rw[e_F];exact ok1.gc,⟨fun l k h=>?_,fun l l' k h h'=>?_,fun k h=>?_,ok1.sf.zs,by rw[e_Z];exact ok1.sf.ze⟩⟩
  ·rcases(e_T l k).1 h with h|⟨rfl,rfl⟩
   ·obtain⟨h1,h2,h3,h4⟩:=ok1.sf.tb l k h
    exact⟨h1,by rw[e_F];exact h2,fun o' c' h'=>h3 o' c' ((e_r _ _).1 h').2,h4⟩
   ·refine⟨⟨hsb.1,hnew⟩,by rw[e_F];exact hFs,fun o' c' h'=>?_,.mk (by rw[db _ _ _ _ hbb];exact hhs)⟩
    obtain⟨h5,h6⟩:=(e_r _ _).1 h'
    exact h5 (ok.inj _ _ _ _ _ h6 hrs)
  ·rcases(e_T l k).1 h with h|⟨rfl,rfl⟩<;>rcases(e_T l' k).1 h' with h'|⟨rfl,h'⟩
   ·exact ok1.sf.tt l l' k h h'
   ·subst h';exact absurd h (hTs l)
   ·exact absurd h' (hTs l')
   ·rfl
  ·obtain⟨h1,h2,h3,h4⟩:=ok1.sf.zc k h
   exact⟨h1,by rw[e_F];exact h2,fun o' c' h'=>h3 o' c' ((e_r _ _).1 h').2,h4⟩
 have kg:KG s s E w E' (w.setRow b arr'):=⟨fun l p hl h=>(e_r _ _).2 ⟨hl,h⟩,fun g k h=>by rw[e_H];exact h,fun g k h=>hk.heap g k h,fun l k _ h=>⟨(e_T l k).2 (.inl h),(hk.T l k h).2⟩,fun k h=>⟨by rw[e_Z];exact h,(hk.Z k h).2⟩,fun l _=>by rw[e_n]⟩
 refine⟨E',Du hR ok' kg h1 h2 h3 h4 ?_ (fun l b' c' hl hlo hrl=>db _ _ _ _ (fun e=>by subst e;exact hlo (ok.inj _ _ _ _ _ hrl hr))) (fun l b' c' _ _ _ hf=>by rw[e_F];exact hf) (fun l p h=>hR.dom l p ((e_r _ _).1 h).2) (fun l k h=>?_)⟩
 ·refine .inr ⟨by rw[e_n];exact hnn,b,c,(e_r _ _).2 ⟨Ne.symm hso,hr⟩,⟨fun j=>if j=i then some (bs,cs) else hd j,⟨arr',hw',by omega⟩,by simpa using hS.len,hS.cap,fun j ej hj=>?_,fun j ej hj _=>?_,fun j ej hj _=>?_,fun j j' k c1 c2 hj hj' _ _ q1 q2=>?_,fun _ _ _ _ h=>by cases h⟩,by rw[e_F];exact hF⟩
  ·rw[hcell _ (by omega)]
   rw[Uc] at hj
   by_cases e1:i=j
   ·subst e1
    rw[if_pos rfl,if_pos hil] at hj;cases hj
    exact hS.a i e he
   ·rw[if_neg e1] at hj;exact hS.a j ej hj
  ·rw[Uc] at hj
   by_cases e1:i=j
   ·subst e1
    rw[if_pos rfl,if_pos hil] at hj;cases hj
    rw[ey hw',hget,if_pos rfl,if_pos rfl,hv,hn];rfl
   ·rw[if_neg e1] at hj
    rw[hcell _ (by omega),if_neg (Ne.symm e1)]
    refine hS.s j ej hj ?_
    rcases hh with rfl|⟨A,n',k',rfl⟩
    ·rfl
    ·exact pB e1
  ·rw[Uc] at hj
   by_cases e1:i=j
   ·subst e1
    rw[if_pos rfl,if_pos hil] at hj;cases hj
    rw[if_pos rfl]
    exact⟨(e_T o bs).2 (.inr ⟨rfl,rfl⟩),hrow.keep (db _ _ _ _ hbb)⟩
   ·rw[if_neg e1] at hj
    rw[if_neg (Ne.symm e1)]
    refine(hS.ne j ej hj ?_).keep (fun k c' _ hk'=>(e_T o k).2 (.inl hk')) (fun k c' _ hk'=>db _ _ _ _ (hTb o k hk'))
    rcases hh with rfl|⟨A,n',k',rfl⟩
    ·rfl
    ·exact pB e1
  ·have hole_ne:∀j,j≠i→uK hole j=false:=fun j hj=>by
    rcases hh with rfl|⟨A,n',k',rfl⟩
    ·rfl
    ·exact pB (Ne.symm hj)
   have hR':∀j,j≠i→j<els.length→∀k c',hd j=some (k,c')→E.T o k:=fun j hj hjl k c' hdj=>by
    have:=hS.ne j _ (List.getElem?_eq_getElem hjl) (hole_ne j hj)
    rw[hdj] at this
    exact this.1
   have hj:j<els.length:=by simpa using hj
   have hj':j'<els.length:=by simpa using hj'
   by_cases e1:j=i<;>by_cases e2:j'=i
   ·rw[e1,e2]
   ·rw[if_pos e1] at q1;rw[if_neg e2] at q2;cases q1
    exact absurd (hR' j' e2 hj' _ _ q2) (hTs o)
   ·rw[if_neg e1] at q1;rw[if_pos e2] at q2;cases q2
    exact absurd (hR' j e1 hj _ _ q1) (hTs o)
   ·rw[if_neg e1] at q1;rw[if_neg e2] at q2
    exact hS.inj j j' k c1 c2 hj hj' (hole_ne j e1) (hole_ne j' e2) q1 q2
 ·rcases(e_T l k).1 h with h|⟨rfl,_⟩
  ·exact hR.td l k h
  ·exact cF hol
end
end Go.AM
namespace Go.AM
open Go.RowKit
section
variable {P:Program} {N:Nat} {sl sl1 sl2:List (Nat×T)} {ob ob1:List (Nat×Ob)} {nx:Nat} {AQ:Exit→St→Prop}
theorem Ph {cx:Cx} {E:Env} {a:Act} {w:World} {o:Nat} {z:Ob} (hR:Rel N cx E ⟨sl,ob,nx⟩ a w) (hz:co E w o z):Rel N cx E ⟨sl,(o,z)::ob,nx⟩ a w:=
 ⟨hR.ok,hR.dom,fun l x h=>by
  by_cases e:o=l
  ·subst e;rw[b8] at h;cases h;exact hz
  ·rw[bu _ _ e] at h;exact hR.obs l x h,hR.sl,hR.dfr,hR.size,hR.td⟩
theorem Eo {c:Code} {o i:Nat} {ty nt:TypeId} {els:List (Int×List Int)} {e:Int×List Int} (ho:go ob o=some (.cxo o ty nt els none)) (he:els[i]?=some e) (hol:nlt o nx=true) (hrv:rsv nx=false)
 (h1:lU nx sl=some sl1) (h2:xJ o sl1=some sl2) (h3:wY nx (wY o ob)=ob1) (h4:okO nx o ob1=true)
 (hnil:e.2=[]→AWC P N c ⟨sl2,(o,.cxo o ty nt els (some (i,none,0,0)))::ob1,nx⟩ AQ)
 (hcons:∀k cc,AWC P N c ⟨sl2,(nx,.abs nx (Hid.loc nt (some ⟨k,0,none⟩) e.2.length cc e.2))::(o,.cxo o ty nt els (some (i,some ⟨k,0,none⟩,e.2.length,cc)))::ob1,nx+1⟩ AQ):AWC P N c ⟨sl,ob,nx⟩ AQ:=by
 intro cx E a w hR
 have ok:=hR.ok
 obtain⟨hnn,b,cb,hd,hr,hS,hF⟩:=yD he (hR.obs o _ ho)
 have hil:i<els.length:=(List.getElem?_eq_some_iff.1 he).1
 have hs0:=hS.s i e he rfl
 have hn0:=hS.ne i e he rfl
 cases hdi:hd i with
 |none=>
  rw[hdi] at hs0 hn0
  refine hnil hn0 cx E a w (Du hR ok ⟨fun _ _ _ h=>h,fun _ _ h=>h,fun _ _ _=>rfl,fun _ _ _ h=>⟨h,rfl⟩,fun b _=>⟨by assumption,nD.refl w b⟩,fun _ _=>Iff.rfl⟩ h1 h2 h3 h4 (.inr ⟨hnn,b,cb,hr,⟨hd,hS.blk,hS.len,hS.cap,hS.a,fun j ej hj _=>hS.s j ej hj rfl,fun j ej hj _=>hS.ne j ej hj rfl,fun j j' k c1 c2 hj hj' _ _=>hS.inj j j' k c1 c2 hj hj' rfl rfl,fun j A n k h=>?_⟩,hF⟩) (fun _ _ _ _ _ _=>rfl) (fun _ _ _ _ _ _ h=>h) hR.dom hR.td)
  cases h
  exact hs0
 |some p=>
  obtain⟨k,cc⟩:=p
  rw[hdi] at hs0 hn0
  obtain⟨hTk,hrow⟩:=hn0
  obtain⟨t1,t2,t3,t4⟩:=ok.sf.tb o k hTk
  obtain⟨E',hE'⟩:∃E':Env,E'={E with r:=fun l=>if l=nx then some (k,cc) else E.r l,T:=fun l j=>E.T l j∧j≠k,n:=fun l=>l≠nx∧E.n l}:=⟨_,rfl⟩
  have e_r:∀l p,E'.r l=some p↔(l=nx∧p=(k,cc))∨(l≠nx∧E.r l=some p):=fun l p=>by
   subst hE'
   show(if l=nx then some (k,cc) else E.r l)=some p↔_
   split
   ·rename_i h;simp[h,eq_comm]
   ·rename_i h;simp[h]
  have e_T:∀l j,E'.T l j↔E.T l j∧j≠k:=fun l j=>by subst hE';exact Iff.rfl
  have e_F:E'.F=E.F:=by subst hE';rfl
  have e_G:E'.G=E.G:=by subst hE';rfl
  have e_Z:E'.Z=E.Z:=by subst hE';rfl
  have e_n:∀l,E'.n l↔l≠nx∧E.n l:=fun l=>by subst hE';exact Iff.rfl
  have e_H:∀g,E'.H g=E.H g:=fun g=>by cases g;exact e_F;exact e_G
  have hnx:∀l p,E.r l=some p→l≠nx:=fun l p h=>Uh (hR.dom l p h)
  have hon:o≠nx:=Uh (cF hol)
  have ok':cK cx E' w:=by
   refine⟨by rw[e_F];exact ok.fb,by rw[e_F,e_G];exact ok.gf,by rw[e_G];exact ok.gn,fun l j c h=>?_,fun l l' j c c' h h'=>?_,ok.os,ok.tape,ok.output,ok.size,ok.block,fun l p hp h=>?_,by rw[e_F];exact ok.ff,by rw[e_F];exact ok.gc,⟨fun l j h=>?_,fun l l' j h h'=>ok.sf.tt l l' j ((e_T _ _).1 h).1 ((e_T _ _).1 h').1,fun j h=>?_,ok.sf.zs,by rw[e_Z];exact ok.sf.ze⟩⟩
   ·rcases(e_r _ _).1 h with⟨rfl,hp⟩|⟨_,h⟩
    ·cases hp;exact⟨t1.1,.inl t1.2⟩
    ·exact ok.rb l j c h
   ·rcases(e_r _ _).1 h with⟨rfl,hp⟩|⟨q1,h⟩<;>rcases(e_r _ _).1 h' with⟨rfl,hp'⟩|⟨q2,h'⟩
    ·rfl
    ·cases hp;exact absurd h' (t3 l' c')
    ·cases hp';exact absurd h (t3 l c)
    ·exact ok.inj l l' j c c' h h'
   ·rcases(e_r _ _).1 h with⟨rfl,hp'⟩|⟨_,h⟩
    ·rw[mX hrv] at hp;cases hp
    ·exact ok.pin l p hp h
   ·obtain⟨h,hj⟩:=(e_T _ _).1 h
    obtain⟨u1,u2,u3,u4⟩:=ok.sf.tb l j h
    refine⟨u1,by rw[e_F];exact u2,fun o' c' h'=>?_,u4⟩
    rcases(e_r _ _).1 h' with⟨_,hp⟩|⟨_,h'⟩
    ·cases hp;exact hj rfl
    ·exact u3 o' c' h'
   ·obtain⟨u1,u2,u3,u4⟩:=ok.sf.zc j h
    refine⟨u1,by rw[e_F];exact u2,fun o' c' h'=>?_,u4⟩
    rcases(e_r _ _).1 h' with⟨_,hp⟩|⟨_,h'⟩
    ·cases hp;have:=t1.2;have:=u1.1;omega
    ·exact u3 o' c' h'
  have kg:KG nx o E w E' w:=⟨fun l p hl h=>(e_r _ _).2 (.inr ⟨hl,h⟩),fun g j h=>by rw[e_H];exact h,fun _ _ _=>rfl,fun l j hl h=>⟨(e_T _ _).2 ⟨h,fun e=>by subst e;exact hl (ok.sf.tt l o j h hTk)⟩,rfl⟩,fun j h=>⟨by rw[e_Z];exact h,nD.refl w j⟩,fun l hl=>by rw[e_n];simp[hl]⟩
  refine hcons k cc cx E' a w (Ph (Du hR ok' kg h1 h2 h3 h4 (.inr ⟨by rw[e_n];simp[hnn],b,cb,(e_r _ _).2 (.inr ⟨hon,hr⟩),⟨hd,hS.blk,hS.len,hS.cap,hS.a,fun j ej hj _=>hS.s j ej hj rfl,fun j ej hj hjh=>(hS.ne j ej hj rfl).keep (fun k' c' hk' hT=>(e_T o k').2 ⟨hT,fun ek=>?_⟩) (fun _ _ _ _=>rfl),fun j j' k c1 c2 hj hj' _ _=>hS.inj j j' k c1 c2 hj hj' rfl rfl,fun j A n k' h=>?_⟩,by rw[e_F];exact hF⟩)
   (fun _ _ _ _ _ _=>rfl) (fun l b' c' _ _ _ h=>by rw[e_F];exact h) (fun l p h=>?_) (fun l j h=>Ug (hR.td l j ((e_T _ _).1 h).1))) (.inr ⟨by rw[e_n];simp,k,cc,(e_r _ _).2 (.inl ⟨rfl,rfl⟩),⟨rfl,rfl,rfl,hrow⟩,by rw[e_F];exact t2⟩))
  ·subst ek
   have:=hS.inj j i k' c' cc (List.getElem?_eq_some_iff.1 hj).1 hil rfl rfl hk' hdi
   subst this
   simp[uK] at hjh
  ·cases h;exact hs0
  ·rcases(e_r _ _).1 h with⟨rfl,_⟩|⟨_,h⟩
   ·exact Nat.lt_succ_self _
   ·exact Ug (hR.dom l p h)
theorem PH {o:Nat} {ty nt:TypeId} {al:List Int} {g:Bool} (ho:go ob o=some (.rown ty 2 (al.map fun a=>[.i .i64 a,.k none 0 0]) g)) (h3:wY o ob=ob1):cZ N ⟨sl,ob,nx⟩ ⟨sl,(o,.cxo o ty nt (al.map fun a=>(a,[])) none)::ob1,nx⟩:=by
 subst h3
 intro cx E a w hR
 refine⟨E,hR.ok,hR.dom,fun l x h=>?_,hR.sl,hR.dfr,hR.size,hR.td⟩
 by_cases e:o=l
 ·subst e
  rw[b8] at h;cases h
  rcases hR.obs o _ ho with⟨h0,h1⟩|⟨h0,b,c,arr,hr,hh,h1,h2,h3,h4,h5,h6⟩
  ·refine .inl ⟨h0,?_⟩
   show al.map _=[]
   simpa using h1
  ·have key:∀i e,(al.map fun a=>((a,[]):Int×List Int))[i]?=some e→w.cell? ⟨b,i*2,none⟩=some (.int .i64 e.1)∧w.cell? ⟨b,i*2+1,none⟩=some (.slice none 0 0)∧e.2=[]:=by
    intro i e hi
    rw[Ub] at hi
    cases ha:al[i]? with
    |none=>rw[ha] at hi;cases hi
    |some x=>
     rw[ha] at hi;cases hi
     have:=mW (sz:=2) (i:=i) (e:=[.i .i64 x,.k none 0 0]) h5 h4 (by rw[Ub,ha];rfl)
     rw[rdL,rdL] at this
     obtain⟨⟨u,u1,u2⟩,⟨v,v1,v2⟩,_⟩:=this
     simp only[rdD] at u2 v2
     subst u2;subst v2
     exact⟨by simpa using u1,by simpa using v1,rfl⟩
   refine .inr ⟨h0,b,c,hr,⟨fun _=>none,⟨arr,hh,h1⟩,by simpa using h2,h3,fun i e hi=>(key i e hi).1,fun i e hi _=>?_,fun i e hi _=>(key i e hi).2.2,fun _ _ _ _ _ _ _ _ _ h=>(by cases h),fun _ _ _ _ h=>(by cases h)⟩,h6⟩
   rw[(key i e hi).2.2];exact(key i e hi).2.1
 ·rw[bu _ _ e] at h
  exact hR.obs l x (vu h).2
def LR (e:Int×List Int):List D:=[.i .i64 e.1,.l (e.2.map eI)]
theorem HU {o:Nat} {ty nt:TypeId} {els:List (Int×List Int)} (ho:go ob o=some (.cxo o ty nt els none)) (h1:lU nx sl=some sl1) (h2:xJ o sl1=some sl2) (h3:wY nx (wY o ob)=ob1) (h4:okO nx o ob1=true):
 cZ N ⟨sl,ob,nx⟩ ⟨sl2,(o,.rown ty 2 (els.map LR) true)::ob1,nx⟩:=by
 intro cx E a w hR
 have ok:=hR.ok
 obtain⟨E',hE'⟩:∃E':Env,E'={E with F:=fun j=>E.F j∨E.T o j,G:=fun j=>E.G j∨E.T o j,T:=fun l j=>l≠o∧E.T l j}:=⟨_,rfl⟩
 have e_T:∀l j,E'.T l j↔l≠o∧E.T l j:=fun l j=>by subst hE';exact Iff.rfl
 have e_F:∀j,E'.F j↔E.F j∨E.T o j:=fun j=>by subst hE';exact Iff.rfl
 have e_G:∀j,E'.G j↔E.G j∨E.T o j:=fun j=>by subst hE';exact Iff.rfl
 have e_r:E'.r=E.r:=by subst hE';rfl
 have e_Z:E'.Z=E.Z:=by subst hE';rfl
 have e_n:E'.n=E.n:=by subst hE';rfl
 have ok':cK cx E' w:=by
  refine⟨fun j h=>?_,fun j h=>?_,fun j h=>?_,by rw[e_r];exact ok.rb,by rw[e_r];exact ok.inj,ok.os,ok.tape,ok.output,ok.size,ok.block,by rw[e_r];exact ok.pin,fun j h=>?_,fun j h h'=>?_,⟨fun l j h=>?_,fun l l' j h h'=>ok.sf.tt l l' j ((e_T _ _).1 h).2 ((e_T _ _).1 h').2,fun j h=>?_,ok.sf.zs,by rw[e_Z];exact ok.sf.ze⟩⟩
  ·rcases(e_F j).1 h with h|h
   ·exact ok.fb j h
   ·exact(ok.sf.tb o j h).1.1
  ·rcases(e_G j).1 h with h|h
   ·exact(e_F j).2 (.inl (ok.gf j h))
   ·exact(e_F j).2 (.inr h)
  ·rcases(e_G j).1 h with h|h
   ·exact ok.gn j h
   ·exact .inl (ok.sf.tb o j h).1.2
  ·rcases(e_F j).1 h with h|h
   ·exact ok.ff j h
   ·exact .inr (ok.sf.tb o j h).1.2
  ·rcases(e_F j).1 h with h|h
   ·exact ok.gc j h h'
   ·exact(ok.sf.tb o j h).2.2.2
  ·obtain⟨hl,h⟩:=(e_T _ _).1 h
   obtain⟨u1,u2,u3,u4⟩:=ok.sf.tb l j h
   refine⟨u1,fun hf=>?_,by rw[e_r];exact u3,u4⟩
   rcases(e_F j).1 hf with hf|hf
   ·exact u2 hf
   ·exact hl (ok.sf.tt l o j h hf)
  ·obtain⟨u1,u2,u3,u4⟩:=ok.sf.zc j h
   refine⟨u1,fun hf=>?_,by rw[e_r];exact u3,u4⟩
   rcases(e_F j).1 hf with hf|hf
   ·exact u2 hf
   ·have:=(ok.sf.tb o j hf).1.2;have:=u1.1;omega
 have hFr:∀l b c,E.r l=some (b,c)→¬E.F b→¬E'.F b:=fun l b c hr hn hf=>by
  rcases(e_F b).1 hf with hf|hf
  ·exact hn hf
  ·exact(ok.sf.tb o b hf).2.2.1 l c hr
 have kg:KG nx o E w E' w:=⟨fun l p _ h=>by rw[e_r];exact h,fun g j h=>by cases g;exact(e_F j).2 (.inl h);exact(e_G j).2 (.inl h),fun _ _ _=>rfl,fun l j hl h=>⟨(e_T _ _).2 ⟨hl,h⟩,rfl⟩,fun j h=>⟨by rw[e_Z];exact h,nD.refl w j⟩,fun l _=>by rw[e_n]⟩
 refine⟨E',Du hR ok' kg h1 h2 h3 h4 ?_ (fun _ _ _ _ _ _=>rfl) (fun l b c _ _ hr=>hFr l b c hr) (by rw[e_r];exact hR.dom) (fun l j h=>hR.td l j ((e_T _ _).1 h).2)⟩
 rcases hR.obs o _ ho with⟨h0,h0'⟩|⟨h0,b,c,hr,⟨hd,hS⟩,hF⟩
 ·have h0':els=[]:=h0'
  exact .inl ⟨by rw[e_n];exact h0,by rw[h0'];rfl⟩
 ·obtain⟨arr,hh,ha⟩:=hS.blk
  refine .inr ⟨by rw[e_n];exact h0,b,c,arr,by rw[e_r];exact hr,hh,ha,by simpa using hS.len,hS.cap,(fun e he=>by obtain⟨x,_,rfl⟩:=List.mem_map.1 he;rfl),qH (sz:=2) (fun e he=>by obtain⟨x,_,rfl⟩:=List.mem_map.1 he;rfl) fun i e hi=>?_,hFr o b c hr hF⟩
  rw[Ub] at hi
  cases hx:els[i]? with
  |none=>rw[hx] at hi;cases hi
  |some x=>
   rw[hx] at hi;cases hi
   rw[LR,rdL,rdL,rdL,R9]
   refine⟨⟨_,hS.a i x hx,by rw[rdD]⟩,⟨_,hS.s i x hx rfl,?_⟩,trivial⟩
   have hne:=hS.ne i x hx rfl
   rw[rdD]
   cases hdi:hd i with
   |none=>
    rw[hdi] at hne
    have hne:x.2=[]:=hne
    rw[hne];exact⟨none,0,rfl,RX _,.inl rfl⟩
   |some p=>
    obtain⟨k,cc⟩:=p
    rw[hdi] at hne
    exact⟨some ⟨k,0,none⟩,cc,by simp[nv],by simpa using hne.2.2.1,.inr ⟨k,0,rfl,(e_G k).2 (.inr hne.1),hne.2.rd _⟩⟩
end
end Go.AM
namespace Go.AM
open Go.RowKit
def Mu (f:C→Option C):Ob→Option Ob
 | .abs l h=>some (.abs l h)
 |x=>Bj f x
theorem IR {E E':Env} {w:World} {f:C→Option C} {l o:Nat} {x y:Ob} (h:Mu f x=some y) (hf:∀c c' u,f c=some c'→cvC E w c u→cvC E' w c' u) (hr:∀p,E.r l=some p→E'.r o=some p) (hn:E'.n o↔E.n l)
 (hH:∀g b,E.H g b→E'.H g b) (hF:∀b,¬E.F b→¬E'.F b) (hT:∀j z,x= .abs j z→∀b,E.T j b→E'.T j b) (hx:co E w l x):co E' w o y:=by
 cases x with
 |abs j z=>
  cases h
  rcases hx with⟨h1,h2⟩|⟨h1,b,c,k1,k2,k3⟩
  ·exact .inl ⟨hn.2 h1,h2⟩
  ·exact .inr ⟨fun k=>h1 (hn.1 k),b,c,hr _ k1,z.st _ _ _ _ w w k2 (hT j z rfl) rfl (fun _ _=>rfl),hF b k3⟩
 |var t cs=>exact vX (x:=.var t cs) h hf (fun b c _ hr'=>hr _ hr') hn hH (fun b c _ _=>hF b) hx
 |row t sz els g m=>exact vX (x:=.row t sz els g m) h hf (fun b c _ hr'=>hr _ hr') hn hH (fun b c _ _=>hF b) hx
 |rown t sz els g=>exact vX (x:=.rown t sz els g) h hf (fun b c _ hr'=>hr _ hr') hn hH (fun b c _ _=>hF b) hx
def FC (f:C→Option C) (ob:List (Nat×Ob)):List (Nat×Nat)→Option (List (Nat×Ob))
 |[]=>some []
 |(k,o)::r=>match go ob o with
  |some x=>match Mu f x,FC f ob r with
   |some y,some ys=>some ((k,y)::ys)
   |_,_=>none
  |none=>none
theorem FD {f:C→Option C} {ob:List (Nat×Ob)}:∀{m:List (Nat×Nat)} {xs:List (Nat×Ob)} {l:Nat} {x:Ob},FC f ob m=some xs→go xs l=some x→∃o x0,cW m l=some o∧go ob o=some x0∧Mu f x0=some x
 |[],xs,l,x,h,hg=>by simp[FC] at h;subst h;cases hg
 |(k,o)::r,xs,l,x,h,hg=>by
  simp only[FC] at h
  split at h
  ·rename_i x0 h0
   split at h
   ·rename_i y ys h1 h2
    simp at h;subst h
    by_cases e:k=l
    ·subst e;rw[b8] at hg;cases hg;exact⟨o,x0,by simp[cW],h0,h1⟩
    ·rw[bu _ _ e] at hg
     obtain⟨o',x',a1,a2,a3⟩:=FD h2 hg
     exact⟨o',x',by simp only[cW,pB e];exact a1,a2,a3⟩
   ·cases h
  ·cases h
def Mv (m:List (Nat×Nat)):List (Nat×Ob)→Option (List (Nat×Ob))
 |[]=>some []
 |(k,x)::r=>match cW m k,Mu (rlC m) x,Mv m r with
  |some o,some y,some ys=>some ((o,y)::ys)
  |_,_,_=>none
theorem IS {m:List (Nat×Nat)} (hinj:∀a a' b,cW m a=some b→cW m a'=some b→a=a'):∀{ys ys':List (Nat×Ob)} {o:Nat} {y':Ob},Mv m ys=some ys'→go ys' o=some y'→∃k y,cW m k=some o∧go ys k=some y∧Mu (rlC m) y=some y'
 |[],ys',o,y',h,hg=>by simp[Mv] at h;subst h;cases hg
 |(k,x)::r,ys',o,y',h,hg=>by
  simp only[Mv] at h
  split at h
  ·rename_i o1 y1 ys1 h1 h2 h3
   simp at h;subst h
   by_cases e:o1=o
   ·subst e;rw[b8] at hg;cases hg;exact⟨k,x,h1,b8 _ _ _,h2⟩
   ·rw[bu _ _ e] at hg
    obtain⟨k',y,a1,a2,a3⟩:=IS hinj h3 hg
    have hne:k≠k':=fun e'=>by subst e';rw[h1] at a1;cases a1;exact e rfl
    exact⟨k',y,a1,by rw[bu _ _ hne];exact a2,a3⟩
  ·cases h
def kpC (pn:List (Nat×Nat)):C→C
 | .p o k=>match cW pn o with
  |some _=>.p o k
  |none=>.any
 | .d _ (.i k n)=>.d false (.i k n)
 | .d _ (.b b)=>.d false (.b b)
 | .d _ (.str s)=>.d false (.str s)
 |_=>.any
def kpT (pn:List (Nat×Nat)):T→T
 | .v (.c c)=>.v (.c (kpC pn c))
 |_=>.any
def kpS (pn:List (Nat×Nat)):List (Nat×T)→List (Nat×T)
 |[]=>[]
 |(k,t)::r=>(k,kpT pn t)::kpS pn r
theorem Mp (pn:List (Nat×Nat)):∀(sl:List (Nat×T)) (k:Nat),gt (kpS pn sl) k=kpT pn (gt sl k)
 |[],k=>rfl
 |(j,t)::r,k=>by
  rw[kpS]
  by_cases e:j=k
  ·subst e;rw[dJ,dJ]
  ·rw[cN _ _ e,cN _ _ e];exact Mp pn r k
def QR (m:List (Nat×Nat)) (p:Nat×Nat):Bool:=m.any fun q=>d0 q.1 p.1&&d0 q.2 p.2
theorem De {m:List (Nat×Nat)} {p:Nat×Nat} (h:QR m p=true):p∈m:=by
 obtain⟨q,h1,h2⟩:=List.any_eq_true.1 h
 simp only[hV] at h2
 have a:=RU h2.1
 have b:=RU h2.2
 obtain⟨q1,q2⟩:=q
 obtain⟨p1,p2⟩:=p
 simp only at a b
 subst a;subst b;exact h1
def PX (m m':List (Nat×Nat)) (ys:List (Nat×Ob)) (nx nx':Nat):Bool:=
 lp (m.map (·.1))&&lp (m.map (·.2))&&lp (m'.map (·.1))&&lp (m'.map (·.2))&&
 m.all (fun p=>nlt p.1 nx&&(!rsv p.2||rsv p.1)&&(!rsp p.1||QR m' p&&match go ys p.1 with|some (.var _ _)=>true|_=>false))&&
 m'.all (fun p=>nlt p.2 nx'&&((rsp p.1&&QR m p)||(!rsv p.1&&!rsv p.2)))
def yU (n:Nat):List (Nat×Ob)→Bool
 |[]=>true
 |(_,.abs j _)::r=>nlt j n&&yU n r
 |_::r=>yU n r
theorem yV {n k j:Nat} {z:Hid}:∀{ob:List (Nat×Ob)},yU n ob=true→go ob k=some (.abs j z)→j<n
 |[],_,h=>by cases h
 |(k',x)::r,h0,h=>by
  by_cases e:k'=k
  ·subst e;rw[b8] at h;cases h
   simp only[yU,hV] at h0;exact cF h0.1
  ·rw[bu _ _ e] at h
   cases x<;>first|(simp only[yU,hV] at h0;exact yV h0.2 h)|(simp only[yU] at h0;exact yV h0 h)
def pinned (m:List (Nat×Nat)):List (Nat×Nat):=(m.filter fun p=>rsp p.1).map fun p=>(p.2,p.1)
theorem o_inl {P:Program} {N N':Nat} {d:Tmp} {ty:TypeId} {ps:String} {af:Array Edge} {gd:Option (Nat×Bool)} {f:FuncId} {fn:Func} {c:Code} {args:List Operand} {tys:Array TypeId} {sl sl':List (Nat×T)} {ob obs2:List (Nat×Ob)} {nx nx':Nat} {ts ts2:List T} {ys ys':List (Nat×Ob)} {out out':T} {m m':List (Nat×Nat)} {sl0:List (Nat×T)} {rs:List ResultVar}
 (hf:P.funcs[f]?=some fn) (hb:fn.body=some c) (hnm:(fn.name== "runtime.NumGoroutine")=false) (hN:fn.ntmps=N') (hrs:fn.results.toList=rs) (h:AWC P N' c ⟨sl0,obs2,nx⟩ (rL N' P rs ys out []))
 (ht:xf sl args=some ts) (ha:rr (rlC (inv m)) ts=some ts2) (hle:Nat.ble ts2.length N'=true) (hs0:rQ 0 ts2=sl0) (hx:FC (rlC (inv m)) ob m=some obs2)
 (hm:PX m m' ys nx nx'=true) (hj:yU nx' ys=true) (hy:Mv m' ys=some ys') (ho:vI (rlC m') out=some out') (hs:kpS (pinned m) sl=sl') (hd:nlt d N=true):
 AWO P N ⟨some d,.call ⟨.value (.func f),args.toArray,tys⟩,ty,ps,af,gd⟩ ⟨sl,ob,nx⟩ ⟨(d,out')::sl',ys',nx'⟩:=by
 subst hs0;subst hrs;subst hs
 intro cx E a w hR
 have ok:=hR.ok
 obtain⟨t1,t2⟩:=oL ht
 simp only[PX,hV,List.all_eq_true,SU,Tc] at hm
 obtain⟨⟨⟨⟨⟨hm1,hm2⟩,hm3⟩,hm4⟩,hm5⟩,hm6⟩:=hm
 have ndm1:=ig hm1
 have ndm2:=ig hm2
 have ndm3:=ig hm3
 have ndm4:=ig hm4
 have inv_of:∀{k o},cW m k=some o→cW (inv m) o=some k:=fun h=>gF (by rw[sr];exact ndm2) (mV.2 (dF h))
 have of_inv:∀{k o},cW (inv m) o=some k→cW m k=some o:=fun h=>gF ndm1 (mV.1 (dF h))
 have inv_of':∀{k o},cW m' k=some o→cW (inv m') o=some k:=fun h=>gF (by rw[sr];exact ndm4) (mV.2 (dF h))
 have of_inv':∀{k o},cW (inv m') o=some k→cW m' k=some o:=fun h=>gF ndm3 (mV.1 (dF h))
 obtain⟨E2,hE2⟩:∃E2:Env,E2={E with r:=fun k=>match cW m k with|some o=>E.r o|none=>none,n:=fun k=>match cW m k with|some o=>E.n o|none=>False}:=⟨_,rfl⟩
 have e_r:∀k o,cW m k=some o→E2.r k=E.r o:=fun k o h=>by subst hE2;simp only[h]
 have e_n:∀k o,cW m k=some o→(E2.n k↔E.n o):=fun k o h=>by subst hE2;simp only[h]
 have e_r':∀k p,E2.r k=some p→∃o,cW m k=some o∧E.r o=some p:=fun k p h=>by
  subst hE2
  simp only at h
  split at h
  ·rename_i o h1;exact⟨o,h1,h⟩
  ·cases h
 have e_F:E2.F=E.F:=by subst hE2;rfl
 have e_G:E2.G=E.G:=by subst hE2;rfl
 have e_T:E2.T=E.T:=by subst hE2;rfl
 have e_Z:E2.Z=E.Z:=by subst hE2;rfl
 have e_H:∀g,E2.H g=E.H g:=fun g=>by cases g;exact e_F;exact e_G
 let cx2:Cx:=⟨cx.w0,cx.W,E2.r,cx.F0,cx.Z,cx.gw,cx.G0⟩
 have ok2:cK cx2 E2 w:=by
  refine⟨by rw[e_F];exact ok.fb,by rw[e_F,e_G];exact ok.gf,by rw[e_G];exact ok.gn,fun k b c h=>?_,fun k k' b c c' h h'=>?_,ok.os,ok.tape,ok.output,ok.size,ok.block,fun _ _ _ h=>h,by rw[e_F];exact ok.ff,by rw[e_F];exact ok.gc,⟨fun l b h=>?_,by rw[e_T];exact ok.sf.tt,fun b h=>?_,ok.sf.zs,by rw[e_Z];exact ok.sf.ze⟩⟩
  ·obtain⟨o,h1,h2⟩:=e_r' k _ h
   obtain⟨h3,h4⟩:=ok.rb o b c h2
   refine⟨h3,h4.imp id fun⟨q1,q2⟩=>⟨q1,?_⟩⟩
   rcases(hm5 _ (dF h1)).1.2 with h|h
   ·rw[h] at q2;cases q2
   ·exact h
  ·obtain⟨o,h1,h2⟩:=e_r' k _ h
   obtain⟨o',h1',h2'⟩:=e_r' k' _ h'
   have:=ok.inj o o' b c c' h2 h2';subst this
   have q1:=inv_of h1
   have q2:=inv_of h1'
   rw[q1] at q2;exact Option.some.inj q2
  ·rw[e_T] at h
   obtain⟨h1,h2,h3,h4⟩:=ok.sf.tb l b h
   exact⟨h1,by rw[e_F];exact h2,fun k c hk=>by obtain⟨o,_,h5⟩:=e_r' k _ hk;exact h3 o c h5,h4⟩
  ·obtain⟨h1,h2,h3,h4⟩:=ok.sf.zc b h
   exact⟨h1,by rw[e_F];exact h2,fun k c hk=>by obtain⟨o,_,h5⟩:=e_r' k _ hk;exact h3 o c h5,h4⟩
 have hin:∀c c' u,rlC (inv m) c=some c'→cvC E w c u→cvC E2 w c' u:=by
  intro c c' u h hc
  cases c with
  |d g x=>cases h;exact ci (fun _ _=>rfl) (fun b hb=>by rw[e_H];exact hb) _ _ hc
  |nil=>cases h;exact hc
  |any=>cases h;trivial
  |fn f=>cases h;exact hc
  |w l n=>
   simp only[rlC] at h
   split at h
   ·rename_i k h1;cases h
    obtain⟨b,cc,q1,q2⟩:=hc
    exact⟨b,cc,(e_r k l (of_inv h1)).trans q1,q2⟩
   ·cases h
  |wn l n=>
   simp only[rlC] at h
   split at h
   ·rename_i k h1;cases h
    rcases hc with⟨q0,q1⟩|⟨q0,b,cc,q1,q2⟩
    ·exact .inl ⟨(e_n k l (of_inv h1)).2 q0,q1⟩
    ·exact .inr ⟨fun q=>q0 ((e_n k l (of_inv h1)).1 q),b,cc,(e_r k l (of_inv h1)).trans q1,q2⟩
   ·cases h
  |p l n=>
   simp only[rlC] at h
   split at h
   ·rename_i k h1;cases h
    obtain⟨b,cc,q1,q2⟩:=hc
    exact⟨b,cc,(e_r k l (of_inv h1)).trans q1,q2⟩
   ·cases h
  |_=>cases h
 have hTV:TV E2 w ts2 (args.map a.eval):=zQ hin ha t1 (fun x t hm=>by have:=hR.op x;rwa [Lk.mem t2 x t hm] at this)
 obtain⟨v1,v2⟩:=yz 0 hTV
 have hle':ts2.length≤N':=Nat.le_of_ble_eq_true hle
 obtain⟨vals,hvals⟩:∃vals:Array Value,vals=(args.map a.eval).toArray:=⟨_,rfl⟩
 have hsz:vals.size=ts2.length:=by rw[hvals];simpa using v1
 have hR2:Rel N' cx2 E2 ⟨rQ 0 ts2,obs2,nx⟩ {tmps:=vals++SR (fn.ntmps-vals.size) undef,defers:=[]} w:=by
  refine⟨ok2,fun k p h=>?_,fun k x h=>?_,fun k=>?_,rfl,by simp;omega,fun l b h=>by rw[e_T] at h;exact hR.td l b h⟩
  ·obtain⟨o,h1,_⟩:=e_r' k p h
   exact cF (hm5 _ (dF h1)).1.1
  ·obtain⟨o,x0,h1,h2,h3⟩:=FD hx h
   exact IR h3 hin (fun p hp=>(e_r k o h1).trans hp) (e_n k o h1) (fun g b hb=>by rw[e_H];exact hb) (fun b hb=>by rw[e_F];exact hb) (fun j z _ b hb=>by rw[e_T];exact hb) (hR.obs o x0 h2)
  ·by_cases hk:k<ts2.length
   ·obtain⟨u,h3,h4⟩:=(v2 k).1 ⟨Ta _,by omega⟩
    have:(vals++SR (fn.ntmps-vals.size) undef).getD k undef=u:=by
     have h5:vals[k]?=some u:=by rw[hvals];simpa using h3
     have h6:(vals++SR (fn.ntmps-vals.size) undef)[k]?=some u:=by rw[Array.getElem?_append_left (by omega)];exact h5
     simp[h6]
    rw[this];exact h4
   ·have:=(v2 k).2 (by omega)
    show cvT _ w (gt (rQ 0 ts2) k) _
    rw[this];trivial
 have hwp:=h cx2 E2 _ w hR2
 have hcalls:Calls P f vals w fun e w'=>∃v E',e= .returned v∧cK cx2 E' w'∧cvT E' w' out v∧(∀l y,go ys l=some y→co E' w' l y):=by
  refine calls_of_wp hf hb (wp_mono hwp ?_)
  rintro e a' w' ⟨E',s',hR',hq⟩
  have fin:(∃s'' vs,cZ N' s' s''∧mK P s'' fn.results.toList vs∧MQ vs=out∧LoA s''.ob ys∧LoA s''.ob [])→
   a'.defers=[]∧∃v,(results fn a'.tmps).run P w'= .ok v w'∧∃v' E',Ending.returned v= .returned v'∧cK cx2 E' w'∧cvT E' w' out v'∧(∀l y,go ys l=some y→co E' w' l y):=by
   rintro⟨s'',vs,hw,hres,ho,hys,_⟩
   obtain⟨E'',hR''⟩:=hw _ _ _ _ hR'
   obtain⟨us,k1,k2⟩:=rN hR'' hres
   have hmm:(fn.results.mapM (jK a'.tmps)).run P w'= .ok us.toArray w':=by
    rw[←Array.toArray_toList (xs:=fn.results),List.mapM_toArray]
    simp only[Sem.run_map,k1]
    rfl
   have hrr:results fn a'.tmps=(fn.results.mapM (jK a'.tmps))>>= fun vs=>pure (if h:vs.size=1 then vs[0] else .tuple vs):=rfl
   have hv:∃v,(results fn a'.tmps).run P w'= .ok v w'∧cvT E'' w' out v:=by
    subst ho
    match vs,us,k2 with
    |[],[],_=>exact⟨.tuple #[],by rw[hrr];simp[hmm],#[],rfl,trivial⟩
    |[v],[u],k2=>exact⟨u,by rw[hrr];simp[hmm],k2.1⟩
    |v1::v2::vs,u1::u2::us,k2=>exact⟨.tuple (u1::u2::us).toArray,by rw[hrr];simp[hmm],_,rfl,k2⟩
   obtain⟨v,q1,q2⟩:=hv
   exact⟨hR''.dfr,v,q1,v,E'',rfl,hR''.ok,q2,fun l y h=>hR''.obs l y (CF hys h)⟩
  cases e with
  |normal=>exact fin hq
  |ret=>exact fin hq
  |_=>exact hq.elim
 have hent:(callFunc f vals).run P w= .ok (.enter f vals) w:=by simp[callFunc,hf,hb];simpa using hnm
 unfold Oper.wp
 have hrun:(execOp a.eval ⟨some d,.call ⟨.value (.func f),args.toArray,tys⟩,ty,ps,af,gd⟩).run P w= .ok (.enter f vals) w:=by
  subst hvals
  simp only[execOp,resolve,Act.eval,Deferred.ofValue,Sem.run_bind,Sem.run_pure,Result.andThen_ok,invoke]
  simpa using hent
 rw[hrun,Oper.upon_enter]
 refine hcalls.mono ?_
 rintro e w' ⟨v,E',rfl,ok',hv,hobs⟩
 obtain⟨E3,hE3⟩:∃E3:Env,E3={E' with r:=fun o=>match cW (inv m') o with|some k=>E'.r k|none=>none,n:=fun o=>match cW (inv m') o with|some k=>E'.n k|none=>False,T:=fun l b=>l<nx'∧E'.T l b}:=⟨_,rfl⟩
 have f_r:∀k o,cW m' k=some o→E3.r o=E'.r k:=fun k o h=>by subst hE3;simp only[inv_of' h]
 have f_n:∀k o,cW m' k=some o→(E3.n o↔E'.n k):=fun k o h=>by subst hE3;simp only[inv_of' h]
 have f_r':∀o p,E3.r o=some p→∃k,cW m' k=some o∧E'.r k=some p:=fun o p h=>by
  subst hE3
  simp only at h
  split at h
  ·rename_i k h1;exact⟨k,of_inv' h1,h⟩
  ·cases h
 have f_F:E3.F=E'.F:=by subst hE3;rfl
 have f_G:E3.G=E'.G:=by subst hE3;rfl
 have f_T:∀l b,E3.T l b↔l<nx'∧E'.T l b:=fun l b=>by subst hE3;exact Iff.rfl
 have f_Z:E3.Z=E'.Z:=by subst hE3;rfl
 have f_H:∀g,E3.H g=E'.H g:=fun g=>by cases g;exact f_F;exact f_G
 have hpin:∀k o p,rsp k=true→(k,o)∈m→E'.r k=some p→E.r o=some p:=fun k o p hk hm hp=>by
  have h1:E2.r k=some p:=ok'.pin k p hk hp
  rwa [e_r k o (gF ndm1 hm)] at h1
 have ok3:cK cx E3 w':=by
  refine⟨by rw[f_F];exact ok'.fb,by rw[f_F,f_G];exact ok'.gf,by rw[f_G];exact ok'.gn,fun o b c h=>?_,fun o o' b c c' h h'=>?_,ok'.os,ok'.tape,ok'.output,ok'.size,ok'.block,fun o p ho h=>?_,by rw[f_F];exact ok'.ff,by rw[f_F];exact ok'.gc,⟨fun l b h=>?_,fun l l' b h h'=>ok'.sf.tt l l' b ((f_T _ _).1 h).2 ((f_T _ _).1 h').2,fun b h=>?_,ok'.sf.zs,by rw[f_Z];exact ok'.sf.ze⟩⟩
  ·obtain⟨k,h1,h2⟩:=f_r' o _ h
   obtain⟨h3,h4⟩:=ok'.rb k b c h2
   refine⟨h3,?_⟩
   rcases(hm6 _ (dF h1)).2 with⟨q1,q2⟩|⟨q1,q2⟩
   ·exact(ok.rb o b c (hpin k o _ q1 (De q2) h2)).2
   ·exact .inl (h4.resolve_right (fun q=>by rw[q1] at q;cases q.2))
  ·obtain⟨k,h1,h2⟩:=f_r' o _ h
   obtain⟨k',h1',h2'⟩:=f_r' o' _ h'
   have:=ok'.inj k k' b c c' h2 h2';subst this
   rw[h1] at h1';exact Option.some.inj h1'
  ·obtain⟨k,h1,h2⟩:=f_r' o _ h
   rcases(hm6 _ (dF h1)).2 with⟨q1,q2⟩|⟨q1,q2⟩
   ·exact ok.pin o p ho (hpin k o _ q1 (De q2) h2)
   ·rw[mX q2] at ho;cases ho
  ·obtain⟨_,h⟩:=(f_T _ _).1 h
   obtain⟨h1,h2,h3,h4⟩:=ok'.sf.tb l b h
   exact⟨h1,by rw[f_F];exact h2,fun o c ho=>by obtain⟨k,_,h5⟩:=f_r' o _ ho;exact h3 k c h5,h4⟩
  ·obtain⟨h1,h2,h3,h4⟩:=ok'.sf.zc b h
   exact⟨h1,by rw[f_F];exact h2,fun o c ho=>by obtain⟨k,_,h5⟩:=f_r' o _ ho;exact h3 k c h5,h4⟩
 have hout:∀c c' u,rlC m' c=some c'→cvC E' w' c u→cvC E3 w' c' u:=by
  intro c c' u h hc
  cases c with
  |d g x=>cases h;exact ci (fun _ _=>rfl) (fun b hb=>by rw[f_H];exact hb) _ _ hc
  |nil=>cases h;exact hc
  |any=>cases h;trivial
  |fn f=>cases h;exact hc
  |w l n=>
   simp only[rlC] at h
   split at h
   ·rename_i k h1;cases h
    obtain⟨b,cc,q1,q2⟩:=hc
    exact⟨b,cc,(f_r l k h1).trans q1,q2⟩
   ·cases h
  |wn l n=>
   simp only[rlC] at h
   split at h
   ·rename_i k h1;cases h
    rcases hc with⟨q0,q1⟩|⟨q0,b,cc,q1,q2⟩
    ·exact .inl ⟨(f_n l k h1).2 q0,q1⟩
    ·exact .inr ⟨fun q=>q0 ((f_n l k h1).1 q),b,cc,(f_r l k h1).trans q1,q2⟩
   ·cases h
  |p l n=>
   simp only[rlC] at h
   split at h
   ·rename_i k h1;cases h
    obtain⟨b,cc,q1,q2⟩:=hc
    exact⟨b,cc,(f_r l k h1).trans q1,q2⟩
   ·cases h
  |_=>cases h
 have hinj':∀a a' b,cW m' a=some b→cW m' a'=some b→a=a':=fun a a' b h h'=>by
  have h1:=inv_of' h
  rw[inv_of' h'] at h1;exact(Option.some.inj h1).symm
 refine⟨E3,ok3,fun o p h=>?_,fun o y h=>?_,fun k=>?_,hR.dfr,by simpa [Act.put] using hR.size,fun l b h=>((f_T _ _).1 h).1⟩
 ·obtain⟨k,h1,_⟩:=f_r' o p h
  exact cF (hm6 _ (dF h1)).1
 ·obtain⟨k,y0,h1,h2,h3⟩:=IS hinj' hy h
  refine IR h3 hout (fun p hp=>(f_r k o h1).trans hp) (f_n k o h1) (fun g b hb=>by rw[f_H];exact hb) (fun b hb=>by rw[f_F];exact hb) (fun j z e b hb=>(f_T _ _).2 ⟨yV hj (e▸h2),hb⟩) (hobs k y0 h2)
 ·show cvT E3 w' (gt ((d,out')::kpS (pinned m) sl) k) ((a.put (some d) v).tmps.getD k undef)
  rw[f8 (by rw[hR.size];exact cF hd)]
  by_cases hk:d=k
  ·subst hk;rw[dJ,if_pos rfl];exact vJ hout ho hv
  ·rw[cN _ _ hk,if_neg hk,Mp]
   have h0:=hR.sl k
   simp only at h0
   cases hg:gt sl k with
   |tup ts=>trivial
   |any=>trivial
   |v vv=>
    cases vv with
    |agg cs=>trivial
    |c c=>
     rw[hg] at h0
     have h0:cvC E w c (a.tmps.getD k undef):=h0
     show cvC E3 w' (kpC (pinned m) c) _
     cases c with
     |p o j=>
      simp only[kpC]
      split
      ·rename_i k' h1
       have hmem:=dF h1
       simp only[pinned,List.mem_map,List.mem_filter,Prod.mk.injEq] at hmem
       obtain⟨⟨p1,p2⟩,⟨hp1,hp2⟩,hp3,hp4⟩:=hmem
       simp only at hp2 hp3 hp4
       subst hp3;subst hp4
       obtain⟨b,cc,q1,q2⟩:=h0
       have hh:=(hm5 _ hp1).2
       rcases hh with hh|⟨hh1,hh2⟩
       ·rw[hh] at hp2;cases hp2
       ·split at hh2
        ·rename_i t cs hgo
         obtain⟨b',c',arr,r1,_⟩:=hobs _ _ hgo
         have r2:=hpin _ _ _ hp2 hp1 r1
         rw[q1] at r2
         have r3:=f_r _ _ (gF ndm3 (De hh1))
         exact⟨b,cc,by rw[r3,r1];exact r2.symm,q2⟩
        ·cases hh2
      ·trivial
     |d g x=>
      cases x<;>first|trivial|(simp only[kpC,cvC,rdD] at h0 ⊢;exact h0)
     |_=>trivial
end Go.AM
namespace Go.AM
open Go.RowKit
theorem Ln {P:Program} {o:Oper} {needs:List (Operand×T)} {nob:List (Nat×Ob)} {q n e sz:Nat} {els:List (List D)} {g:Bool} (hn:els.length=n)
 (h:AWK P o needs nob (.v (.c (.w q n))) [(q,.row e sz els g true)] [] none):AWK P o needs nob (.v (.c (.d g (.l els)))) [(q,.row e sz els g false)] [] none:=by
 intro cx E a w ok hne hnob hfr
 obtain⟨hq1,hq2⟩:=hfr q _ (.head _)
 refine Oper.wp_mono ?_ (h cx E a w ok hne hnob (fun l x hm=>by simp at hm;obtain⟨rfl,_⟩:=hm;exact⟨hq1,hq2⟩))
 rintro a' w' ⟨v,E',k1,ok',k3,⟨b,c,hr,hv⟩,k5,k6,k7⟩
 obtain⟨b',c',arr,hr',hh,ha,hlc,hmx,hes,hrd,hFm,_⟩:=k5 q _ (.head _)
 rw[hr] at hr';cases hr'
 have hF:=hFm rfl
 obtain⟨hb1,hb2⟩:=ok'.rb q b c hr
 have hb3:cx.w0.heap.size≤b:=by
  rcases hb2 with h|h
  ·exact h
  ·rw[hq2] at h;cases h.2
 let E2:Env:=⟨E'.r,fun j=>E'.F j∨j=b,fun j=>E'.G j∨(g=true∧j=b),E'.T,E'.Z,E'.n⟩
 have hH:∀g' j,E'.H g' j→E2.H g' j:=fun g' j hj=>by cases g'<;>exact .inl hj
 have hold:∀l c',E.r l≠some (b,c'):=fun l c' hl=>by
  have h1:=k3.r l _ (by simp) hl
  have:=ok'.inj _ _ _ _ _ h1 hr
  subst this
  rw[hq1] at hl;cases hl
 refine⟨v,E2,k1,⟨?_,?_,?_,ok'.rb,ok'.inj,ok'.os,ok'.tape,ok'.output,ok'.size,ok'.block,ok'.pin,fun j hj=>hj.elim (ok'.ff j) (fun e=>.inr (e▸hb3)),fun j hj hj'=>hj.elim (fun h=>ok'.gc j h hj') (fun e=>e▸.mk hh),
  ⟨fun l j h=>?_,ok'.sf.tt,fun j h=>?_,ok'.sf.zs,ok'.sf.ze⟩⟩,⟨k3.r,fun j hj=>.inl (k3.F j hj),fun j hj=>.inl (k3.G j hj),?_,k3.heap,k3.own,k3.ownk,k3.T,k3.Z,k3.n⟩,?_,fun l x hm=>?_,(fun _ _ h=>by cases h),fun l x hl=>?_⟩
 ·rintro j (h|rfl)
  ·exact ok'.fb j h
  ·exact hb1
 ·rintro j (h|⟨_,rfl⟩)
  ·exact .inl (ok'.gf j h)
  ·exact .inr rfl
 ·rintro j (h|⟨_,rfl⟩)
  ·exact ok'.gn j h
  ·exact .inl hb3
 ·obtain⟨h1,h2,h3,h4⟩:=ok'.sf.tb l j h
  exact⟨h1,fun hk=>hk.elim h2 (fun e=>by subst e;exact h3 q c hr),h3,h4⟩
 ·obtain⟨h1,h2,h3,h4⟩:=ok'.sf.zc j h
  exact⟨h1,fun hk=>hk.elim h2 (fun e=>by subst e;exact h3 q c hr),h3,h4⟩
 ·rintro j (h|rfl)
  ·exact k3.F' j h
  ·exact .inr (.inr (fun l c' _=>hold l c'))
 ·refine⟨some ⟨b,0,none⟩,c,by rw[hv,hn],hlc,.inr ⟨b,0,rfl,?_,cd (fun _ _=>rfl) (hH g) rfl _ _ hrd⟩⟩
  cases g
  ·exact .inr rfl
  ·exact .inr ⟨rfl,rfl⟩
 ·simp at hm;obtain⟨rfl,rfl⟩:=hm
  exact⟨b,c,arr,hr,hh,ha,hlc,hmx,hes,cd (fun _ _=>rfl) (hH g) rfl _ _ hrd,(fun h=>by cases h),fun _=>⟨.inr rfl,fun hg=>.inr ⟨hg,rfl⟩⟩⟩
 ·rcases k7 l x hl with h|⟨ob,hm⟩
  ·exact .inl h
  ·simp at hm;obtain⟨rfl,_⟩:=hm;exact .inr ⟨_,.head _⟩
section
variable {P:Program} {N:Nat} {d:Tmp} {tt:TypeId} {ps:String} {af:Array Edge} {gd:Option (Nat×Bool)} {x y:Operand} {sl sl1 sl2:List (Nat×T)} {ob ob1:List (Nat×Ob)} {nx:Nat}
theorem olh {t:TypeId} {o i n k:Nat} {ty nt:TypeId} {els:List (Int×List Int)} {A:Option Addr} {e:Int×List Int} [TySc P t] (he:els[i]?=some e) (hx:opT sl x= .v (.c (.e o 2 i 1))) (ho:go ob o=some (.cxo o ty nt els (some (i,A,n,k)))) (hN:nlt d N=true):
 NS0 P N ⟨some d,.load t x,tt,ps,af,gd⟩ sl ob nx d (.v (.c (.d false (.k A n k)))) ⟨d,[(x,.v (.c (.e o 2 i 1)))],[(o,.cxo o ty nt els (some (i,A,n,k)))],.v (.c (.d false (.k A n k))),[]⟩:=cV (st:=⟨sl,ob,nx⟩) (Fq he) rfl hN ⟨hx,trivial⟩ ⟨ho,trivial⟩ rfl
theorem olx {t:TypeId} {o i:Nat} {ty nt:TypeId} {els:List (Int×List Int)} {e:Int×List Int} [TySc P t] (he:els[i]?=some e) (hx:opT sl x= .v (.c (.e o 2 i 1))) (ho:go ob o=some (.cxo o ty nt els none)) (hN:nlt d N=true):
 NS0 P N ⟨some d,.load t x,tt,ps,af,gd⟩ sl ob nx d (.v (.c (.r o (.l (e.2.map eI))))) ⟨d,[(x,.v (.c (.e o 2 i 1)))],[(o,.cxo o ty nt els none)],.v (.c (.r o (.l (e.2.map eI)))),[]⟩:=cV (st:=⟨sl,ob,nx⟩) (Kh he rfl) rfl hN ⟨hx,trivial⟩ ⟨ho,trivial⟩ rfl
theorem Om {o:Oper} {needs:List (Operand×T)} {nob nw:List (Nat×Ob)} {out out':T} (h:AWN P o needs nob out nw) (ho:∀E w v,cvT E w out v→cvT E w out' v):AWN P o needs nob out' nw:=by
 intro cx E a w ok hn hb hf
 refine Oper.wp_mono ?_ (h cx E a w ok hn hb hf)
 rintro a' w' ⟨v,E',h1,h2,h3,h4,h5,h6⟩
 exact⟨v,E',h1,h2,h3,ho _ _ _ h4,h5,h6⟩
def nkC:C→C
 | .nil=>.d false (.k none 0 0)
 |c=>c
def Q3:List C→List C
 |[]=>[]
 |c::cs=>nkC c::Q3 cs
theorem Q2 {E:Env} {w:World} {c:C} {u:Value} (h:cvC E w c u):cvC E w (nkC c) u:=by
 cases c with
 |nil=>have h:u= .slice none 0 0:=h;subst h;show rdD _ _ _ _;rw[rdD]
 |_=>exact h
theorem IU {E:Env} {w:World}:∀{cs:List C} {us:List Value},CV E w cs us→CV E w (Q3 cs) us
 |[],[],_=>trivial
 |c::cs,u::us,h=>⟨Q2 h.1,IU h.2⟩
 |[],_::_,h=>h.elim
 |_::_,[],h=>h.elim
theorem bdk {t:TypeId} {zs cs cs':List C} {pl:List (Nat×Nat)} {parts:List (Nat×Operand)} {vs:List V} [TyZ P t zs] [TyB P t pl] (hv:Hg sl (parts.map (·.2))=some vs) (h:y8 pl zs ((parts.map (·.1)).zip vs)=some cs) (hk:Q3 cs=cs') (hN:nlt d N=true):
 NS0 P N ⟨some d,.build t parts.toArray,tt,ps,af,gd⟩ sl ob nx d (.v (.agg cs')) ⟨d,(parts.map (·.2)).zip (vs.map T.v),[],.v (.agg cs'),[]⟩:=by
 subst hk
 obtain⟨h1,h2⟩:=yI hv
 exact cV (st:=⟨sl,ob,nx⟩) (Om (IT (by simpa using h1) h) (fun E w v ⟨arr,hu,hc⟩=>⟨arr,hu,IU hc⟩)) rfl hN h2 trivial rfl
theorem bsx {nx':Nat} {t:TypeId} {e sz:Nat} {len:Nat} {parts:List (Nat×Operand)} {vs:List V} {els:List (List D)} {g:Bool} (h:NS P N ⟨some d,.buildSlice t len parts.toArray,tt,ps,af,gd⟩ ⟨sl,ob,nx⟩ ⟨(d,.v (.c (.w nx len)))::sl,(nx,.row e sz els g true)::ob,nx'⟩ ⟨d,(parts.map (·.2)).zip (vs.map T.v),[],.v (.c (.w nx len)),[(nx,.row e sz els g true)]⟩) (hn:els.length=len):
 NX P N ⟨some d,.buildSlice t len parts.toArray,tt,ps,af,gd⟩ ⟨sl,ob,nx⟩ ⟨(d,.v (.c (.d g (.l els))))::sl,(nx,.row e sz els g false)::ob,nx'⟩ ⟨⟨d,(parts.map (·.2)).zip (vs.map T.v),[],.v (.c (.d g (.l els))),[(nx,.row e sz els g false)]⟩,[],none⟩:=by
 obtain⟨h1,h2,h3,h4,h5,h6,h7⟩:=h
 exact⟨Ln hn (qw (y7 h1)),.inl ⟨rfl,h3⟩,h4,h5,h6,rfl⟩
def Qw (a:Int):List D:=[.i .i64 a,.k none 0 0]
end
end Go.AM
namespace Go.AM
open Go.RowKit
def fzC (nw:List (Nat×Ob)):C→Option (RC×List (Nat×Nat))
 | .d _ (.i k n)=>some (.d (.i k n),[])
 | .d _ (.b x)=>some (.d (.b x),[])
 | .d _ (.str s)=>some (.d (.str s),[])
 | .d true (.l xs)=>some (.d (.l xs),[])
 | .wn l n=>match go nw l with
  |some (.rown _ _ els true)=>some (.d (.l els),[(els.length,n)])
  |_=>none
 | .w l n=>match go nw l with
  |some (.row _ _ els true true)=>some (.d (.l els),[(els.length,n)])
  |_=>none
 |_=>none
def L1 (nw:List (Nat×Ob)):List C→Option (List RC×List (Nat×Nat))
 |[]=>some ([],[])
 |c::cs=>match fzC nw c,L1 nw cs with
  |some (r,e),some (rs,es)=>some (r::rs,e++es)
  |_,_=>none
def fzV (nw:List (Nat×Ob)):V→Option (RV×List (Nat×Nat))
 | .c c=>match fzC nw c with
  |some (r,e)=>some (.c r,e)
  |none=>none
 | .agg cs=>match L1 nw cs with
  |some (r,e)=>some (.agg r,e)
  |none=>none
def GZ (nw:List (Nat×Ob)):List V→Option (List RV×List (Nat×Nat))
 |[]=>some ([],[])
 |c::cs=>match fzV nw c,GZ nw cs with
  |some (r,e),some (rs,es)=>some (r::rs,e++es)
  |_,_=>none
def fzT (nw:List (Nat×Ob)):T→Option (List RV×List (Nat×Nat))
 | .v v=>match fzV nw v with
  |some (r,e)=>some ([r],e)
  |none=>none
 | .tup (a::b::vs)=>GZ nw (a::b::vs)
 |_=>none
section
variable {nw:List (Nat×Ob)} {E:Env} {w:World} {G:Nat→Prop} {base:Nat} (hG:∀b,E.G b→G b) (hN:∀l y,go nw l=some y→co E w l y) (hb:∀l y b c,go nw l=some y→E.r l=some (b,c)→gA w b→G b)
include hG hN hb
theorem L0 {c:C} {r:RC} {e:List (Nat×Nat)} {u:Value} (h:fzC nw c=some (r,e)) (he:Eqs e) (hc:cvC E w c u):rcR w G base r u []:=by
 cases c with
 |d g x=>
  cases x with
  |i k n=>simp[fzC] at h;obtain⟨rfl,rfl⟩:=h;exact⟨rfl,by simpa [cvC,rdD] using hc⟩
  |b n=>simp[fzC] at h;obtain⟨rfl,rfl⟩:=h;exact⟨rfl,by simpa [cvC,rdD] using hc⟩
  |str n=>simp[fzC] at h;obtain⟨rfl,rfl⟩:=h;exact⟨rfl,by simpa [cvC,rdD] using hc⟩
  |k A n c'=>simp[fzC] at h
  |l xs=>
   cases g with
   |false=>simp[fzC] at h
   |true=>simp[fzC] at h;obtain⟨rfl,rfl⟩:=h;exact⟨rfl,ci (fun _ _=>rfl) hG _ _ hc⟩
 |wn l n=>
  simp only[fzC] at h
  split at h
  ·rename_i ty sz els hg
   simp at h;obtain⟨rfl,rfl⟩:=h
   have hn:els.length=n:=he.1
   rcases hc with⟨h0,h1,h2⟩|⟨h0,b,c,h1,h2⟩
   ·subst h2;subst hn
    have:els=[]:=List.eq_nil_of_length_eq_zero h1
    subst this
    exact⟨rfl,none,0,rfl,RX _,.inl rfl⟩
   ·rcases hN l _ hg with⟨k0,_⟩|⟨_,b',c',arr,k1,k2,k3,k4,k5,k6,k7,k8⟩
    ·exact absurd k0 h0
    ·rw[h1] at k1;cases k1
     exact⟨rfl,some ⟨b,0,none⟩,c,by rw[hn];exact h2,k4,.inr ⟨b,0,rfl,hb l _ b c hg h1 (.mk k2),cd (fun _ _=>rfl) hG rfl _ _ k7⟩⟩
  ·cases h
 |w l n=>
  simp only[fzC] at h
  split at h
  ·rename_i ty sz els hg
   simp at h;obtain⟨rfl,rfl⟩:=h
   have hn:els.length=n:=he.1
   obtain⟨b,c,h1,h2⟩:=hc
   obtain⟨b',c',arr,k1,k2,k3,k4,k5,k6,k7,k8,_⟩:=hN l _ hg
   rw[h1] at k1;cases k1
   exact⟨rfl,some ⟨b,0,none⟩,c,by rw[hn];exact h2,k4,.inr ⟨b,0,rfl,hb l _ b c hg h1 (.mk k2),cd (fun _ _=>rfl) hG rfl _ _ k7⟩⟩
  ·cases h
 |_=>simp[fzC] at h
theorem Iq:∀{cs:List C} {rs:List RC} {e:List (Nat×Nat)} {us:List Value},L1 nw cs=some (rs,e)→Eqs e→CV E w cs us→Bi w G base rs us []
 |[],rs,e,us,h,he,hc=>by
  simp[L1] at h;obtain⟨rfl,rfl⟩:=h
  cases us with
  |nil=>rfl
  |cons _ _=>exact hc.elim
 |c::cs,rs,e,us,h,he,hc=>by
  simp only[L1] at h
  split at h
  ·rename_i r e1 rs' e2 h1 h2
   simp at h;obtain⟨rfl,rfl⟩:=h
   obtain⟨g1,g2⟩:=dZ he
   cases us with
   |nil=>exact hc.elim
   |cons u us=>exact⟨[],[],rfl,L0 hG hN hb h1 g1 hc.1,Iq h2 g2 hc.2⟩
  ·cases h
theorem L6 {v:V} {r:RV} {e:List (Nat×Nat)} {u:Value} (h:fzV nw v=some (r,e)) (he:Eqs e) (hc:cvV E w v u):rvR w G base r u []:=by
 cases v with
 |c c=>
  simp only[fzV] at h
  split at h
  ·rename_i r' e' h1;simp at h;obtain⟨rfl,rfl⟩:=h;exact L0 hG hN hb h1 he hc
  ·cases h
 |agg cs=>
  simp only[fzV] at h
  split at h
  ·rename_i r' e' h1;simp at h;obtain⟨rfl,rfl⟩:=h
   obtain⟨arr,hu,hc⟩:=hc
   exact⟨arr,hu,Iq hG hN hb h1 he hc⟩
  ·cases h
theorem It:∀{cs:List V} {rs:List RV} {e:List (Nat×Nat)} {us:List Value},GZ nw cs=some (rs,e)→Eqs e→VV E w cs us→yq w G base rs us []
 |[],rs,e,us,h,he,hc=>by
  simp[GZ] at h;obtain⟨rfl,rfl⟩:=h
  cases us with
  |nil=>rfl
  |cons _ _=>exact hc.elim
 |c::cs,rs,e,us,h,he,hc=>by
  simp only[GZ] at h
  split at h
  ·rename_i r e1 rs' e2 h1 h2
   simp at h;obtain⟨rfl,rfl⟩:=h
   obtain⟨g1,g2⟩:=dZ he
   cases us with
   |nil=>exact hc.elim
   |cons u us=>exact⟨[],[],rfl,L6 hG hN hb h1 g1 hc.1,It h2 g2 hc.2⟩
  ·cases h
theorem QC {t:T} {rs:List RV} {e:List (Nat×Nat)} {u:Value} (h:fzT nw t=some (rs,e)) (he:Eqs e) (hc:cvT E w t u):uQ w G base rs u []:=by
 cases t with
 |v v=>
  simp only[fzT] at h
  split at h
  ·rename_i r' e' h1;simp at h;obtain⟨rfl,rfl⟩:=h;exact L6 hG hN hb h1 he hc
  ·cases h
 |any=>cases h
 |tup ts=>
  match ts,h,hc with
  |[],h,_=>cases h
  |[_],h,_=>cases h
  |a::b::vs,h,hc=>
   obtain⟨arr,hu,hc⟩:=hc
   have h:GZ nw (a::b::vs)=some (rs,e):=h
   have key:=It hG hN hb (base:=base) h he hc
   have hlen:∃x y zs,rs=x::y::zs:=by
    simp only[GZ] at h
    split at h
    ·rename_i r e1 rs' e2 h1 h2
     split at h2
     ·rename_i r' e1' rs'' e2' h1' h2'
      simp at h2 h;obtain⟨rfl,rfl⟩:=h2;obtain⟨rfl,rfl⟩:=h;exact⟨_,_,_,rfl⟩
     ·cases h2
    ·cases h
   obtain⟨x,y,zs,rfl⟩:=hlen
   exact⟨arr,hu,key⟩
end
def IX:List (Nat×Ob)→Bool
 |[]=>true
 |(l,_)::r=>!rsv l&&IX r
theorem Fu {l:Nat} {y:Ob}:∀{nw:List (Nat×Ob)},IX nw=true→go nw l=some y→rsv l=false
 |[],_,h=>by cases h
 |(k,z)::r,h0,h=>by
  simp only[IX,hV,Tc] at h0
  by_cases e:k=l
  ·subst e;exact h0.1
  ·rw[bu _ _ e] at h;exact Fu h0.2 h
theorem FnV.frzW {P:Program} {f:FuncId} {t t':TypeId} {cs cs':List C} {args:List T} {out:T} {nw:List (Nat×Ob)} {res:List RV} {e:List (Nat×Nat)} (h:FnV P f [(200,.var t cs)] args [(200,.var t' cs')] out nw) (hf:cs'.all C.free=true) (hz:fzT nw out=some (res,e)) (he:Eqs e) (hn:IX nw=true):
 FnW P f (.var t cs) args (.var t' cs') res:=by
 refine⟨h.enters,fun F w vals b c hF hb hT hs hx hA=>?_⟩
 have hbF:¬F b:=by
  obtain⟨b',c',arr,k1,k2,k3,k4⟩:=hx
  simp[E0] at k1;obtain⟨rfl,rfl⟩:=k1
  exact k4
 have hr0:∀o p,(E0 b c F).r o=some p↔o=200∧p=(b,c):=fun o p=>by
  show(if o=200 then some (b,c) else none)=some p↔_
  split
  ·rename_i h;simp[h,eq_comm]
  ·rename_i h;simp[h]
 have hI:VIn (E0 b c F) w:=⟨hF,fun _ h=>h.elim,fun o b' c' h=>by
  obtain⟨rfl,e⟩:=(hr0 _ _).1 h;cases e;exact⟨hb,rfl,hbF⟩,fun o o' b' c1 c2 h h'=>by rw[((hr0 _ _).1 h).1,((hr0 _ _).1 h').1],fun _ _ h=>h,fun _ h=>h⟩
 refine(h.calls (E0 b c F) w vals hI hT (fun k hk o c' h=>by obtain⟨_,e⟩:=(hr0 _ _).1 h;cases e;exact hs b hk rfl) (fun l x h=>?_) hA).mono ?_
 ·by_cases el:200=l
  ·subst el;rw[b8] at h;cases h;exact hx
  ·rw[bu _ _ el] at h;cases h
 ·rintro en w' ⟨v,E',hen,vo,hv,hys,hnw⟩
  refine⟨v,fun k=>(E'.F k∧w.heap.size≤k)∨(w.heap.size≤k∧k<w'.heap.size∧gA w' k∧∃l y c,go nw l=some y∧E'.r l=some (k,c)),[],hen,⟨vo.past.os,vo.past.tape,vo.past.output,vo.past.size,fun k hk hW=>vo.past.block k hk (fun⟨o,c',ho⟩=>hW (by obtain⟨_,e⟩:=(hr0 _ _).1 ho;cases e;rfl))⟩,fun k hk=>?_,?_,by simp,?_⟩
  ·rcases hk with⟨h1,h2⟩|⟨h1,h2,h3,_⟩
   ·refine⟨h2,vo.fb k h1,?_⟩
    rcases vo.f0 k h1 with h|h
    ·have:=hF k h;omega
    ·exact h.2
   ·exact⟨h1,h2,h3⟩
  ·refine QC (fun k hk=>.inl ⟨vo.gf k hk,(vo.g0 k hk).resolve_right (fun h=>h.elim)⟩) hnw (fun l y k c' hg hr hp=>?_) hz he hv
   obtain⟨q1,q2⟩:=vo.rb l k c' hr
   exact .inr ⟨q2.resolve_right (fun q=>by rw[Fu hn hg] at q;cases q.2),q1,hp,l,y,c',hg,hr⟩
  ·obtain⟨b',c',arr,k1,k2,k3,k4⟩:=hys 200 _ (b8 _ _ _)
   have hp:=vo.pin 200 _ rfl k1
   obtain⟨_,ep⟩:=(hr0 _ _).1 hp;cases ep
   refine⟨b,c,arr,by simp[E1],k2,CA (E:=E') (fun g k hk=>?_) (fun _ _ _=>rfl) hf k3,?_⟩
   ·have hFk:∀k,E'.F k→F k∨(E'.F k∧w.heap.size≤k):=fun k hk=>(vo.f0 k hk).imp id (fun h=>⟨hk,h.1⟩)
    cases g with
    |false=>
     show F k∨_
     rcases hFk k hk with h|h
     ·exact .inl h
     ·exact .inr (.inl h)
    |true=>
     exact .inl ⟨vo.gf k hk,(vo.g0 k hk).resolve_right (fun h=>h.elim)⟩
   ·rintro(h1|⟨h1,h2⟩|⟨h1,_⟩)
    ·exact hbF h1
    ·omega
    ·omega
def upC:C→C
 | .d false (.l xs)=>.d true (.l xs)
 |c=>c
def RA:List C→List C
 |[]=>[]
 |c::cs=>upC c::RA cs
def upV:V→V
 | .c c=>.c (upC c)
 | .agg cs=>.agg (RA cs)
def RD:List V→List V
 |[]=>[]
 |c::cs=>upV c::RD cs
def upT:T→T
 | .v v=>.v (upV v)
 | .tup vs=>.tup (RD vs)
 | .any=>.any
section
variable {E E':Env} {w:World} (hr:∀o p,E.r o=some p→E'.r o=some p) (hn:∀o,E'.n o↔E.n o) (hF:∀b,E.F b→E'.F b) (hG:∀b,E.G b→E'.G b) (hFG:∀b,E.F b→E'.G b) (hT:E'.T=E.T) (hZ:E'.Z=E.Z)
include hr hn hF hG hFG hT hZ
theorem NO {c:C} {u:Value} (h:cvC E w c u):cvC E' w (upC c) u:=by
 have kp:il E w E' w∨True:=.inr trivial
 cases c with
 |d g x=>
  cases g with
  |false=>
   cases x with
   |l xs=>exact ci (fun _ _=>rfl) hFG _ _ h
   |i k n=>exact ci (fun _ _=>rfl) hF _ _ h
   |b n=>exact ci (fun _ _=>rfl) hF _ _ h
   |str n=>exact ci (fun _ _=>rfl) hF _ _ h
   |k A n c=>exact ci (fun _ _=>rfl) hF _ _ h
  |true=>exact ci (fun _ _=>rfl) hG _ _ h
 |w o n=>obtain⟨b,c,h1,h2⟩:=h;exact⟨b,c,hr _ _ h1,h2⟩
 |s o sz off len=>obtain⟨A,c,b,k,h1,h2⟩:=h;exact⟨A,c,b,k,hr _ _ h1,h2⟩
 |p o k=>obtain⟨b,c,h1,h2⟩:=h;exact⟨b,c,hr _ _ h1,h2⟩
 |e o sz i j=>obtain⟨b,c,h1,h2⟩:=h;exact⟨b,c,hr _ _ h1,h2⟩
 |q g y j=>
  obtain⟨b,k,h1,h2,h3⟩:=h
  cases g with
  |false=>exact⟨b,k,h1,hF b h2,rdL_mono (fun _ _=>rfl) hF _ _ _ h2 h3⟩
  |true=>exact⟨b,k,h1,hG b h2,rdL_mono (fun _ _=>rfl) hG _ _ _ h2 h3⟩
 |fn f=>exact h
 |nil=>exact h
 |any=>trivial
 |r l x=>exact ci (fun _ _=>rfl) (fun b hb=>by rw[hT];exact hb) _ _ h
 |z x=>exact p8 (fun _ _=>nD.refl _ _) (fun b hb=>by rw[hZ];exact hb) _ _ h
 |zq y j=>obtain⟨b,k,h1,h2,h3⟩:=h;exact⟨b,k,h1,by rw[hZ];exact h2,rsL_mono (fun _ _=>nD.refl _ _) (fun b hb=>by rw[hZ];exact hb) _ _ _ h2 h3⟩
 |wn o n=>
  rcases h with⟨h1,h2⟩|⟨h1,b,c,h2,h3⟩
  ·exact .inl ⟨(hn o).2 h1,h2⟩
  ·exact .inr ⟨fun k=>h1 ((hn o).1 k),b,c,hr _ _ h2,h3⟩
theorem Jw:∀{cs:List C} {us:List Value},CV E w cs us→CV E' w (RA cs) us
 |[],[],_=>trivial
 |c::cs,u::us,h=>⟨NO hr hn hF hG hFG hT hZ h.1,Jw h.2⟩
 |[],_::_,h=>h.elim
 |_::_,[],h=>h.elim
theorem NR {v:V} {u:Value} (h:cvV E w v u):cvV E' w (upV v) u:=by
 cases v with
 |c c=>exact NO hr hn hF hG hFG hT hZ h
 |agg cs=>obtain⟨arr,hu,h⟩:=h;exact⟨arr,hu,Jw hr hn hF hG hFG hT hZ h⟩
theorem Jx:∀{cs:List V} {us:List Value},VV E w cs us→VV E' w (RD cs) us
 |[],[],_=>trivial
 |c::cs,u::us,h=>⟨NR hr hn hF hG hFG hT hZ h.1,Jx h.2⟩
 |[],_::_,h=>h.elim
 |_::_,[],h=>h.elim
theorem RB {t:T} {u:Value} (h:cvT E w t u):cvT E' w (upT t) u:=by
 cases t with
 |v v=>exact NR hr hn hF hG hFG hT hZ h
 |tup vs=>obtain⟨arr,hu,h⟩:=h;exact⟨arr,hu,Jx hr hn hF hG hFG hT hZ h⟩
 |any=>trivial
end
def dnC:C→Option C
 | .d true (.l xs)=>some (.d false (.l xs))
 | .d g (.i k n)=>some (.d g (.i k n))
 | .d g (.b x)=>some (.d g (.b x))
 | .d g (.str s)=>some (.d g (.str s))
 | .nil=>some .nil
 | .fn f=>some (.fn f)
 |_=>none
theorem Qu {E E':Env} {w:World} (hG:∀b,E.G b→E'.F b) {c c':C} {u:Value} (h:dnC c=some c') (hc:cvC E w c u):cvC E' w c' u:=by
 cases c with
 |d g x=>
  cases x with
  |l xs=>
   cases g with
   |false=>cases h
   |true=>cases h;exact ci (fun _ _=>rfl) hG _ _ hc
  |i k n=>cases g<;>(cases h;simpa [cvC,rdD] using hc)
  |b n=>cases g<;>(cases h;simpa [cvC,rdD] using hc)
  |str n=>cases g<;>(cases h;simpa [cvC,rdD] using hc)
  |k A n c=>cases g<;>cases h
 |nil=>cases h;exact hc
 |fn f=>cases h;exact hc
 |_=>simp[dnC] at h
theorem K7 {f:C→Option C} {E E':Env} {w w':World} (hf:∀c c' u,f c=some c'→cvC E w c u→cvC E' w' c' u):∀{ts ts':List T} {us:List Value},rr f ts=some ts'→TV E w ts us→TV E' w' ts' us
 |[],ts',us,h,hv=>by
  simp[rr] at h;subst h
  cases us with
  |nil=>trivial
  |cons _ _=>exact hv.elim
 |t::ts,ts',us,h,hv=>by
  simp only[rr] at h
  split at h
  ·rename_i h1 h2
   simp at h;subst h
   cases us with
   |nil=>exact hv.elim
   |cons u us=>exact⟨vJ hf h1 hv.1,K7 hf h2 hv.2⟩
  ·cases h
theorem FnV.up {P:Program} {f:FuncId} {args args':List T} {out out':T} {nw:List (Nat×Ob)} (h:FnV P f [] args [] out nw) (ha:rr dnC args'=some args) (ho:upT out=out'):FnV P f [] args' [] out' nw:=by
 subst ho
 refine⟨h.enters,fun E w vals hI ht hs hx hA=>?_⟩
 obtain⟨E0,hE0⟩:∃E0:Env,E0={E with F:=E.G}:=⟨_,rfl⟩
 have e_r:E0.r=E.r:=by subst hE0;rfl
 have e_F:E0.F=E.G:=by subst hE0;rfl
 have e_G:E0.G=E.G:=by subst hE0;rfl
 have e_T:E0.T=E.T:=by subst hE0;rfl
 have e_Z:E0.Z=E.Z:=by subst hE0;rfl
 have hI0:VIn E0 w:=⟨fun b hb=>hI.fb b (hI.gf b (by rw[e_F] at hb;exact hb)),fun b hb=>by rw[e_G] at hb;rw[e_F];exact hb,fun o b c hr=>by
  rw[e_r] at hr
  obtain⟨k1,k2,k3⟩:=hI.rb o b c hr
  exact⟨k1,k2,by rw[e_F];exact fun hg=>k3 (hI.gf b hg)⟩,by rw[e_r];exact hI.inj,by rw[e_T];exact hI.T,by rw[e_Z];exact hI.Z⟩
 refine(h.calls E0 w vals hI0 ht (by rw[e_r];exact hs) (fun l x hg=>by cases hg) (K7 (fun c c' u hc hv=>Qu (fun b hb=>by rw[e_F];exact hb) hc hv) ha hA)).mono ?_
 rintro e w' ⟨v,E',he,vo,hv,_,hnw⟩
 have f0:∀b,E'.F b→E.G b∨(w.heap.size≤b∧gA w' b):=fun b hb=>by have:=vo.f0 b hb;rwa [e_F] at this
 have hr0:∀o b c,E'.r o=some (b,c)→b<w'.heap.size∧(w.heap.size≤b∨((∃o' c',E.r o'=some (b,c'))∧rsv o=true)):=fun o b c hr=>by have:=vo.rb o b c hr;rwa [e_r] at this
 refine⟨v,{E' with F:=fun b=>E'.F b∨E.F b,G:=E'.F},he,⟨by have:=vo.past;rwa [e_r] at this,fun b hb=>hb.elim (vo.fb b) (fun hb=>SZ (hI.fb b hb) vo.past.size),fun b hb=>hb.elim (fun hb=>(f0 b hb).imp (hI.gf b) id) .inl,fun b hb=>.inr hb,fun b hb=>vo.F b (by rw[e_F];exact hb),fun b hb=>.inl hb,fun b hb=>(f0 b hb).elim .inr (fun k=>.inl k.1),hr0,vo.inj,fun o x ho hx'=>by have:=vo.pin o x ho hx';rwa [e_r] at this⟩,
  RB (E:=E') (E':={E' with F:=fun b=>E'.F b∨E.F b,G:=E'.F}) (fun _ _ h=>h) (fun _=>Iff.rfl) (fun b hb=>.inl hb) (fun b hb=>vo.gf b hb) (fun b hb=>hb) rfl rfl hv,fun l y hg=>(by cases hg),fun l y hg=>?_⟩
 have hk:il E' w' {E' with F:=fun b=>E'.F b∨E.F b,G:=E'.F} w':=⟨fun _ _ h=>h,fun g b hb=>by cases g;exact .inl hb;exact vo.gf b hb,fun _ _ _=>rfl,fun _ _ h=>⟨h,rfl⟩,fun _ h=>⟨h,.refl _ _⟩,rfl⟩
 refine eU hk (fun _ _ _=>rfl) (fun b c hr hn hF=>hF.elim hn (fun hb=>?_)) (hnw l y hg)
 rcases(hr0 l b c hr).2 with k|⟨⟨o',c',k⟩,_⟩
 ·have:=hI.fb b hb;omega
 ·exact(hI.rb o' b c' k).2.2 hb
end Go.AM
namespace Go.AM
open Go.RowKit
section
variable {P:Program} {d:Tmp} {ty:TypeId} {ps:String} {af:Array Edge} {gd:Option (Nat×Bool)} {x y:Operand}
theorem Bg {t e sz by_:Nat} {g2:Bool} {o n:Nat} {els:List (List D)} {g m:Bool} {rt:TypeId} {h:Int} {hi:Operand} [ht:TySl P t e sz by_] (hn:els.length=n) (h0:0≤h) (h2:h≤n):
 AWN P ⟨some d,.slice t x none (some hi) none,ty,ps,af,gd⟩ [(x,.v (.c (.w o n))),(hi,.v (.c (.d g2 (.i .i64 h))))] [(o,.row rt sz els g m)] (.v (.c (.w o h.toNat))) []:=
 bY fun E ac w hne hob=>by
  have k1:=hne x _ (.head _)
  have k3:=fY (hne hi _ (.tail _ (.head _)))
  obtain⟨b,c,hr,hu⟩:=k1
  obtain⟨b',c',arr,hr',_,_,hlc,_⟩:=hob o _ (.head _)
  rw[hr] at hr';cases hr'
  obtain⟨i,z,hi1,hi2,_⟩:=ht.i
  obtain⟨he,hu'⟩:=vx ht.u
  refine⟨sliced (some ⟨b,0,none⟩) 0 h.toNat c sz,?_,?_⟩
  ·simp[execOp,hu,k3,run_sliceAt_slice w t _ _ _ _ hu',run_slice_h w t (some ⟨b,0,none⟩) n c hu' .i64 h h0 (by omega),he,eG hi1,hi2]
  ·exact⟨b,c,hr,by simp[sliced,uD]⟩
theorem C6 {t:TypeId} {e sz by_ o q n:Nat} {els ys:List (List D)} {g gy:Bool} {c:C} {nob:List (Nat×Ob)} [ht:TySl P t e sz by_] (hrv:rsv o=false)
 (ho:go nob o=some (.row e sz els g true)) (hs:Src nob c ys gy) (hn:n≤els.length) (hsz:∀e∈ys,e.length=sz) (hb:(n+ys.length)*by_≤140737488355328) (h63:n+ys.length≤9223372036854775807):
 AWK P ⟨some d,.call ⟨.builtin .append,#[x,y],#[t,t]⟩,ty,ps,af,gd⟩ [(x,.v (.c (.w o n))),(y,.v (.c c))] nob (.v (.c (.w q (n+ys.length)))) [(q,.row e sz (els.take n++ys) (g&&gy) true)] [] (some o):=by
 intro cx E a w ok hne hnob hfr
 have hob:∀l x,go nob l=some x→co E w l x:=fun l x h=>hnob l x (uJ h)
 obtain⟨hq1,hq2⟩:=hfr q _ (.head _)
 have h1:cvT E w (.v (.c (.w o n))) (a.eval x):=hne x _ (.head _)
 have h2:cvT E w (.v (.c c)) (a.eval y):=hne y _ (.tail _ (.head _))
 obtain⟨b,cc,hr,hu⟩:=h1
 obtain⟨b',c',arr,hr',hh,ha,hlc,hmx,hes,hrd,hFm,_⟩:=hob o _ ho
 rw[hr] at hr';cases hr'
 have hF:=hFm rfl
 have hesT:∀e'∈els.take n,e'.length=sz:=fun e' he'=>hes e' (List.mem_of_mem_take he')
 have hrdT:=p6 n hrd
 have hnT:(els.take n).length=n:=by simp;omega
 have hoq:o≠q:=fun e=>by rw[e,hq1] at hr;cases hr
 obtain⟨A,k,hv,hyk,hA⟩:=yQ hob hs h2
 obtain⟨ii,zz,i1,i2,i3,i4,i5⟩:=ht.i
 have hbl:=(ok.rb o b cc hr)
 have hown:w.ownsRow 0 e sz (.slice (some ⟨b,0,none⟩) n cc) n (arr.toList.take (n*sz)):=
  ⟨by simp[ha];rw[Tm (by omega)],.inr ⟨b,cc,arr,rfl,Ta _,hh,by omega,hmx,ha,rfl⟩⟩
 have hsrc:∃news:List Value,news.length=ys.length*sz∧(∀u∈news,u.oneCell'=true)∧(∀(j:Nat) (xd:D),ys.flatten[j]?=some xd→∃u,news[j]?=some u∧rdD w (E.H gy) xd u)∧
  ∃v' w',(Builtin.append_ #[t,t] ty #[.slice (some ⟨b,0,none⟩) n cc,.slice A ys.length k]).run P w= .ok v' w'∧w'.ownsRow 0 e sz v' (n+ys.length) (arr.toList.take (n*sz)++news)∧w.grownBy w' (some b)∧v'≠.slice none 0 0∧(v'.ownBlock=some b∨v'.ownBlock=some w.heap.size):=by
  have hgood:∀ad,A=some ad→∀news:List Value,news.length=ys.length*sz→(∀(j:Nat) (u:Value),news[j]?=some u→w.cell? (ad.add j)=some u)→(∀u∈news,u.oneCell'=true)→
   ∃v' w',(Builtin.append_ #[t,t] ty #[.slice (some ⟨b,0,none⟩) n cc,.slice A ys.length k]).run P w= .ok v' w'∧w'.ownsRow 0 e sz v' (n+ys.length) (arr.toList.take (n*sz)++news)∧w.grownBy w' (some b)∧v'≠.slice none 0 0∧(v'.ownBlock=some b∨v'.ownBlock=some w.heap.size):=by
   intro ad hAd news n1 n2 n3
   obtain⟨v',w',r1,r2,r3,r4,r5⟩:=run_append_own_at (P:=P) w 0 t ty e ii zz sz by_ ht.u i1 i4 i2 i3 i5 ht.p _ n _ hown ad ys.length k news n1 n2 n3 (by unfold maxLen;omega) hb (Ta _)
   exact⟨v',w',by rw[hAd];exact r1,r2,r3,(fun h=>by have h9:=(r4.1 h).1;simp at h9),r5⟩
  rcases hA with h0|⟨b2,off,rfl,hrd2⟩
  ·subst h0
   refine⟨[],by simp,by simp,by simp,?_⟩
   cases A with
   |none=>exact⟨_,w,nY w ht.u i1 hown k,by simpa using hown,⟨rfl,rfl,rfl,RX _,fun _ _ _=>rfl⟩,by simp,.inl rfl⟩
   |some ad=>exact hgood ad rfl [] (by simp) (by simp) (by simp)
  ·obtain⟨us,q1,q2,q3,q4⟩:=vU (f6.1 hrd2)
   exact⟨us,by rw[q1,jf hsz],q3,q4,hgood _ rfl us (by rw[q1,jf hsz]) q2 q3⟩
 obtain⟨news,n1,n2,n3,v',w',r1,r2,r3,r4,r5⟩:=hsrc
 obtain⟨_,r2⟩:=r2
 rcases r2 with⟨rfl,_⟩|⟨bn,cap,cur,rfl,_,hhn,hcap,hcapm,hcur,htk⟩
 ·exact absurd rfl r4
 unfold Oper.wp
 simp only[execOp,resolve,invoke,builtin,Sem.run_bind,Sem.run_pure,Result.andThen_ok,List.map_toArray,List.map_cons,List.map_nil,hu,hv,r1,Oper.upon_value]
 have hbn:bn=b∨bn=w.heap.size:=by simpa [Value.ownBlock] using r5
 have hsame:∀k,k<w.heap.size→k≠b→w'.heap[k]?=w.heap[k]?:=fun k hk hne=>r3.block k hk (fun e=>hne (by injection e))
 have hnF:¬E.F bn:=by
  rcases hbn with rfl|rfl
  ·exact hF
  ·exact fun h=>by have:=ok.fb _ h;omega
 have hbig:bn<w'.heap.size:=by
  rcases SV bn w'.heap.size with h|h
  ·exact h
  ·rw[SY h] at hhn;cases hhn
 have hnew:∀l bl cl,l≠o→E.r l=some (bl,cl)→bl≠bn:=by
  intro l bl cl hne hl e
  subst e
  rcases hbn with h|h
  ·subst h;exact hne (ok.inj l o _ _ _ hl hr)
  ·have:=(ok.rb l bl cl hl).1;omega
 have hHb:∀g k,E.H g k→k≠b∧k<w.heap.size:=fun g k hk=>⟨fun e=>by subst e;cases g;exact hF hk;exact hF (ok.gf _ hk),ok.hb hk⟩
 have kH:∀(g:Bool) (k:Nat),E.H g k→w'.heap[k]?=w.heap[k]?:=fun g k hk=>hsame k (hHb g k hk).2 (hHb g k hk).1
 have kI:∀(g:Bool) (k:Nat),E.H g k→(E.mv o q bn cap).H g k:=fun _ _ h=>h
 have hbnew:cx.w0.heap.size≤b:=by
  rcases hbl.2 with h|h
  ·exact h
  ·rw[hrv] at h;cases h.2
 have hmv:∀l bl cl,(E.mv o q bn cap).r l=some (bl,cl)→(l=q∧bl=bn∧cl=cap)∨(l≠q∧l≠o∧E.r l=some (bl,cl)):=by
  intro l bl cl hl
  simp only[Env.mv] at hl
  split at hl
  ·cases hl;exact .inl ⟨by assumption,rfl,rfl⟩
  ·split at hl
   ·cases hl
   ·exact .inr ⟨by assumption,by assumption,hl⟩
 refine⟨_,E.mv o q bn cap,rfl,⟨fun k hk=>SZ (ok.fb k hk) r3.size,ok.gf,ok.gn,fun l bl cl hl=>?_,fun l l' bl cl cl' hl hl'=>?_,by rw[r3.os];exact ok.os,by rw[r3.tape];exact ok.tape,by rw[r3.output];exact ok.output,Nat.le_trans ok.size r3.size,fun k hk hW=>?_,fun l xx hv hl=>?_,ok.ff,fun k hk hk'=>(ok.gc k hk hk').of_eq (hsame k (hHb false k hk).2 (hHb false k hk).1),ok.sf.turn hr rfl rfl (fun _ h=>.inl h) (fun l bl cl hl=>?_) r3.size hsame⟩,
  ⟨fun l xx hl hlr=>?_,fun _ h=>h,fun _ h=>h,fun _ h=>.inl h,fun k hk _ hkl=>hsame k hk (fun e=>hkl o cc rfl (e▸hr)),(fun _ _ _ _ h=>by cases h),fun l bl cl hl hlr=>?_,rfl,rfl,rfl⟩,⟨bn,cap,by simp[Env.mv],rfl⟩,fun l ob hm=>?_,(fun _ _ h=>by cases h),fun l xx hl=>?_⟩
 ·rcases hmv l bl cl hl with⟨_,rfl,rfl⟩|⟨_,_,hl⟩
  ·refine⟨hbig,.inl ?_⟩
   rcases hbn with h|h
   ·rw[h];exact hbnew
   ·rw[h];exact ok.size
  ·have:=ok.rb l bl cl hl;exact⟨SZ this.1 r3.size,this.2⟩
 ·rcases hmv l bl cl hl with⟨h1,h2,h3⟩|⟨h1,h2,h3⟩<;>rcases hmv l' bl cl' hl' with⟨k1,k2,k3⟩|⟨k1,k2,k3⟩
  ·omega
  ·exact absurd h2 (hnew l' _ _ k2 k3)
  ·exact absurd k2 (hnew l _ _ h2 h3)
  ·exact ok.inj l l' bl cl cl' h3 k3
 ·rw[hsame k (by have:=ok.size;omega) (by omega)];exact ok.block k hk hW
 ·obtain⟨bl,cl⟩:=xx
  rcases hmv l bl cl hl with⟨rfl,_⟩|⟨_,_,hl⟩
  ·rw[mX hq2] at hv;cases hv
  ·exact ok.pin l _ hv hl
 ·rcases hmv l bl cl hl with⟨_,rfl,_⟩|⟨_,_,hl⟩
  ·rcases hbn with h|h
   ·left;exact⟨o,_,h▸hr⟩
   ·right;omega
  ·exact .inl ⟨l,cl,hl⟩
 ·simp only[Env.mv]
  rw[if_neg (fun e=>by rw[e,hq1] at hlr;cases hlr),if_neg (fun e=>hl (by rw[e]))]
  exact hlr
 ·cases hl
  rw[hr] at hlr;cases hlr;exact hF
 ·simp at hm;obtain⟨rfl,rfl⟩:=hm
  have hall:∀e'∈els.take n++ys,e'.length=sz:=fun e' he'=>by
   rcases List.mem_append.1 he' with h|h
   ·exact hesT e' h
   ·exact hsz e' h
  refine⟨bn,cap,cur,by simp[Env.mv],hhn,hcur,by simp;omega,hcapm,hall,?_,fun _=>hnF,fun h=>by cases h⟩
  rw[f6]
  refine mC fun j xd hj=>?_
  rw[R9,ey hhn]
  rw[List.flatten_append] at hj
  have hfl:(els.take n).flatten.length=n*sz:=by rw[jf hesT,hnT]
  have hxs:(arr.toList.take (n*sz)).length=n*sz:=by simp[ha];rw[Tm (by omega)]
  have hcurj:∀u,(arr.toList.take (n*sz)++news)[j]?=some u→cur[j]?=some u:=by
   intro u hu
   rw[←htk,R7] at hu
   split at hu
   ·simpa using hu
   ·cases hu
  by_cases hjn:j<n*sz
  ·rw[RY (by omega)] at hj
   obtain⟨u,u1,u2⟩:=lu (f6.1 hrdT) hj
   rw[R9,ey hh] at u1
   refine⟨u,hcurj u ?_,ci (kH _) (kI _) _ _ (oN ok u2 (by simp;intro a _;exact a))⟩
   rw[RY (by omega),R7,if_pos hjn]
   simpa using u1
  ·rw[Si (by omega),hfl] at hj
   obtain⟨u,u1,u2⟩:=n3 _ _ hj
   refine⟨u,hcurj u ?_,ci (kH _) (kI _) _ _ (oN ok u2 (by simp))⟩
   rw[Si (by omega),hxs]
   exact u1
 ·obtain⟨bl,cl⟩:=xx
  rcases hmv l bl cl hl with⟨rfl,_⟩|⟨_,_,hl⟩
  ·exact .inr ⟨_,.head _⟩
  ·exact .inl hl
end
section
variable {P:Program} {N:Nat} {d:Tmp} {ty:TypeId} {ps:String} {af:Array Edge} {gd:Option (Nat×Bool)} {x y:Operand} {sl:List (Nat×T)} {ob:List (Nat×Ob)} {nx:Nat} {α:Type} {enc:α→List D}
theorem cwfT {t e sz by_:Nat} {g2:Bool} {o n:Nat} {ys:List α} {g m:Bool} {rt:TypeId} {h:Int} {hi:Operand} [ht:TySl P t e sz by_] (H:fw ys 0 h=true) (hn:ys.length=n) (hx:opT sl x= .v (.c (.w o n))) (ho:go ob o=some (.row rt sz (ys.map enc) g m)) (hh:opT sl hi= .v (.c (.d g2 (.i .i64 h)))) (hN:nlt d N=true):
 NS0 P N ⟨some d,.slice t x none (some hi) none,ty,ps,af,gd⟩ sl ob nx d (.v (.c (.w o h.toNat))) ⟨d,[(x,.v (.c (.w o n))),(hi,.v (.c (.d g2 (.i .i64 h))))],[(o,.row rt sz (ys.map enc) g m)],.v (.c (.w o h.toNat)),[]⟩:=by
 simp only[fw,decide_eq_true_eq] at H
 exact cV (st:=⟨sl,ob,nx⟩) (Bg (by simpa using hn) H.2.1 (by omega)) rfl hN ⟨hx,hh,trivial⟩ ⟨ho,trivial⟩ rfl
theorem apxP {t:TypeId} {e sz by_ o nx':Nat} {h:Int} {ys zs:List α} {zd:List (List D)} {g gy gg:Bool} {c:C} {nob:List (Nat×Ob)} (ls:List Nat) [TySl P t e sz by_] (H0:fw ys 0 h=true) (H:cS by_ (ys.take h.toNat++zs).length=true) (hzd:zs.map enc=zd) (henc:∀a,(enc a).length=sz)
 (hp:rv ob ls=some nob) (hs:Src nob c zd gy) (hd:nlt d N=true) (hx:opT sl x= .v (.c (.w o h.toNat))) (hy:opT sl y= .v (.c c)) (ho:go nob o=some (.row e sz (ys.map enc) g true)) (hg:(g&&gy)=gg) (hrv:rsv o=false) (hnx:nxt nx=some nx'):
 NX P N ⟨some d,.call ⟨.builtin .append,#[x,y],#[t,t]⟩,ty,ps,af,gd⟩ ⟨sl,ob,nx⟩ ⟨(d,.v (.c (.w nx (ys.take h.toNat++zs).length)))::sl,(nx,.row e sz ((ys.take h.toNat++zs).map enc) gg true)::ob,nx'⟩
  ⟨⟨d,[(x,.v (.c (.w o h.toNat))),(y,.v (.c c))],nob,.v (.c (.w nx (ys.take h.toNat++zs).length)),[(nx,.row e sz ((ys.take h.toNat++zs).map enc) gg true)]⟩,[],some o⟩:=by
 subst hzd;subst hg
 simp only[fw,decide_eq_true_eq] at H0
 have hle:h.toNat≤ys.length:=by omega
 have hl:(ys.take h.toNat++zs).length=h.toNat+zs.length:=by simp;omega
 simp only[cS,decide_eq_true_eq,hl] at H
 have:=C6 (P:=P) (d:=d) (ty:=ty) (ps:=ps) (af:=af) (gd:=gd) (x:=x) (y:=y) (t:=t) (e:=e) (sz:=sz) (by_:=by_) (q:=nx) (n:=h.toNat) hrv ho hs (by simpa using hle) (G3 henc zs) (by simp only[To];exact H.1) (by simp only[To];omega)
 rw[←List.map_take,←TJ,To,←hl] at this
 exact⟨this,.inl ⟨rfl,cF hd⟩,⟨hx,hy,trivial⟩,p3 hp,lq hnx,rfl⟩
theorem apxPF {t:TypeId} {e sz by_ o nx':Nat} {h:Int} {ys zs:List α} {zd:List (List D)} {g gy:Bool} {c:C} {nob:List (Nat×Ob)} (ls:List Nat) [TySl P t e sz by_] (H0:fw ys 0 h=true) (H:cS by_ (ys.take h.toNat++zs).length=true) (hzd:zs.map enc=zd) (henc:∀a,(enc a).length=sz) (hfl:∀a,ro (enc a)=true)
 (hp:rv ob ls=some nob) (hs:Src nob c zd gy) (hd:nlt d N=true) (hx:opT sl x= .v (.c (.w o h.toNat))) (hy:opT sl y= .v (.c c)) (ho:go nob o=some (.row e sz (ys.map enc) g true)) (hrv:rsv o=false) (hnx:nxt nx=some nx'):
 NX P N ⟨some d,.call ⟨.builtin .append,#[x,y],#[t,t]⟩,ty,ps,af,gd⟩ ⟨sl,ob,nx⟩ ⟨(d,.v (.c (.w nx (ys.take h.toNat++zs).length)))::sl,(nx,.row e sz ((ys.take h.toNat++zs).map enc) true true)::ob,nx'⟩
  ⟨⟨d,[(x,.v (.c (.w o h.toNat))),(y,.v (.c c))],nob,.v (.c (.w nx (ys.take h.toNat++zs).length)),[(nx,.row e sz ((ys.take h.toNat++zs).map enc) true true)]⟩,[],some o⟩:=by
 obtain⟨h1,h2,h3,h4,h5,h6⟩:=apxP (P:=P) (N:=N) (t:=t) (x:=x) (y:=y) (enc:=enc) (d:=d) (ty:=ty) (ps:=ps) (af:=af) (gd:=gd) (sl:=sl) (ob:=ob) (nx:=nx) ls H0 H hzd henc hp hs hd hx hy ho rfl hrv hnx
 refine⟨?_,h2,h3,h4,lq hnx,rfl⟩
 intro cx E a w ok hne hnob hfr
 refine Oper.wp_mono ?_ (h1 cx E a w ok hne hnob (fun l x hm=>by simp at hm;obtain⟨rfl,_⟩:=hm;exact hfr _ _ (.head _)))
 rintro a' w' ⟨v,E',k1,k2,k3,k4,k5,k6,k7⟩
 refine⟨v,E',k1,k2,k3,k4,fun l x hm=>?_,k6,fun l x hl=>(k7 l x hl).imp id (fun⟨x',hm⟩=>by simp at hm;obtain⟨rfl,_⟩:=hm;exact⟨_,.head _⟩)⟩
 simp at hm;obtain⟨rfl,rfl⟩:=hm
 obtain⟨b,c,arr,j1,j2,j3,j4,j5,j6,j7,j8,j9⟩:=k5 _ _ (.head _)
 refine⟨b,c,arr,j1,j2,j3,by simpa using j4,j5,by simpa using j6,?_,j8,fun h=>by cases h⟩
 have:rdLL w' (E'.H true) ((ys.take h.toNat++zs).map enc) b 0:=tx (fun e he=>by obtain⟨a,_,rfl⟩:=List.mem_map.1 he;exact hfl a) j7
 simpa using this
end
end Go.AM
namespace Go.AM
def nmO (d:Nat):Operand→Bool
 | .tmp t=>!d0 t d
 |_=>true
def Kl (d:Nat):Op→Bool
 | .move x| .assign x| .nilCheck x| .fieldAddr _ x _| .field _ x _| .load _ x| .unOp _ _ x| .convert _ _ x| .extract x _=>nmO d x
 | .store _ x y| .indexAddr _ x y| .index _ x y| .binOp _ _ x y _=>nmO d x&&nmO d y
 | .buildSlice _ _ ps| .build _ ps=>ps.toList.all fun p=>nmO d p.2
 | .call c=>(match c.callee with| .value x=>nmO d x| .builtin _=>true|_=>false)&&c.args.toList.all (nmO d)
 |_=>false
theorem QQ {d:Nat} {ρ ρ':Operand→Value} (hρ:∀x,nmO d x=true→ρ x=ρ' x) {l:Array Operand} (h:l.toList.all (nmO d)=true):l.map ρ=l.map ρ':=by
 apply Uf
 intro x hx
 exact hρ x (List.all_eq_true.1 h x (by simpa using hx))
theorem OT {α:Type} {d:Nat} {ρ ρ':Operand→Value} (hρ:∀x,nmO d x=true→ρ x=ρ' x) {l:Array (α×Operand)} (h:(l.toList.all fun p=>nmO d p.2)=true):(l.map fun(i,x)=>(i,ρ x))=(l.map fun(i,x)=>(i,ρ' x)):=by
 apply Uf
 rintro⟨i,x⟩ hx
 have:=hρ x (List.all_eq_true.1 h (i,x) (by simpa using hx))
 simp[this]
theorem O5 {d:Nat} {o:Oper} {ρ ρ':Operand→Value} (h:Kl d o.op=true) (hρ:∀x,nmO d x=true→ρ x=ρ' x):execOp ρ o=execOp ρ' o:=by
 unfold execOp
 cases e:o.op with
 |move x|assign x|nilCheck x|fieldAddr _ x _|field _ x _|load _ x|unOp _ _ x|convert _ _ x|extract x _=>
  rw[e] at h;simp only[hρ x h]
 |store _ x y|indexAddr _ x y|index _ x y|binOp _ _ x y _=>
  rw[e] at h;simp only[Kl,hV] at h;simp only[hρ x h.1,hρ y h.2]
 |buildSlice _ _ ps|build _ ps=>rw[e] at h;simp only[OT hρ h]
 |call c=>
  rw[e] at h
  simp only[Kl,hV] at h
  have h2:=QQ hρ h.2
  have:resolve ρ c o.type=resolve ρ' c o.type:=by
   unfold resolve
   rw[h2]
   cases e2:c.callee with
   |value x=>have h1:=h.1;rw[e2] at h1;simp only[hρ x h1]
   |builtin b=>rfl
   |invoke r n=>have h1:=h.1;rw[e2] at h1;cases h1
  simp only[this]
 |_=>first|rfl|(rw[e] at h;cases h)
section
variable {P:Program} {ops:Array Oper} {Q:Exit→Act→World→Prop}
theorem p5 (a:Act) (o:Option Nat) (d:Nat) (u v:Value) (h:o≠some d):(a.put (some d) v).put o u=(a.put o u).put (some d) v:=by
 cases o with
 |none=>rfl
 |some k=>
  have hk:k≠d:=fun e=>h (by rw[e])
  simp only[Act.put]
  congr 1
  exact Ue _ _ (Ne.symm hk)
theorem LU {a:Act} {d:Nat} {v:Value} {x:Operand} (h:nmO d x=true):(a.put (some d) v).eval x=a.eval x:=by
 cases x with
 |tmp t=>
  have ht:t≠d:=fun e=>by subst e;simp[nmO] at h
  show(a.tmps.setIfInBounds d v).getD t undef=a.tmps.getD t undef
  rw[Td,Td,Ud (Ne.symm ht)]
 |_=>rfl
theorem N7 {o:Oper} {a:Act} {w:World} {d s:Nat} {v:Value} {K K':Act→World→Prop} (hQ:∀e a w,Q e a w→e= .normal) (h:Kl d o.op=true) (hd:o.dst≠some d) (hs:o.dst≠some s)
 (hK:∀a' w',a'.tmps.getD s undef=a.tmps.getD s undef→K (a'.put (some d) v) w'→K' a' w') (hh:o.wp P (a.put (some d) v) w K Q):o.wp P a w K' Q:=by
 have hput:∀(a0:Act) (u:Value),a0.tmps=a.tmps→(a0.put o.dst u).tmps.getD s undef=a.tmps.getD s undef:=fun a0 u h0=>by
  rw[←h0]
  cases e:o.dst with
  |none=>rfl
  |some k=>
   have hk:k≠s:=fun e'=>hs (by rw[e,e'])
   show(a0.tmps.setIfInBounds k u).getD s undef=a0.tmps.getD s undef
   rw[Td,Td,Ud hk]
 unfold Oper.wp at*
 rw[O5 h (ρ':=a.eval) (fun x hx=>LU hx)] at hh
 generalize hr:(execOp a.eval o).run P w=r at*
 cases r with
 |ok n w'=>
  cases n with
  |value u=>exact hK _ w' (hput a u rfl) (by rw[←p5 a o.dst d u v hd];exact hh)
  |skip=>exact hK _ w' (hput a undef rfl) (by rw[←p5 a o.dst d undef v hd];exact hh)
  |defer x=>exact hK _ w' (hput {a with defers:=x::a.defers} undef rfl) (by rw[←p5 _ o.dst d undef v hd];exact hh)
  |enter f args=>
   refine Calls.mono hh (fun e w'' he=>?_)
   cases e with
   |returned u=>exact hK _ w'' (hput a u rfl) (by rw[←p5 a o.dst d u v hd];exact he)
   |panicked c=>have:=hQ _ _ _ he;cases this
   |outgrown=>exact he
  |row r args=>exact Rows.mono hh (fun u w'' he=>hK _ w'' (hput a u rfl) (by rw[←p5 a o.dst d u v hd];exact he))
  |_=>exact hh.elim
 |halt x w'=>
  cases x with
  |panic u=>have:=hQ _ _ _ hh;cases this
  |_=>exact hh.elim
def CE (ops:Array Oper) (i0 d s:Nat):Prop:=∀j o,ops[j]?=some o→j≠i0→(∃e∈o.after,Region.binds .any e=true∧e.on=i0)∨(Kl d o.op=true∧o.dst≠some d∧o.dst≠some s∧∀q b,o.guard=some (q,b)→(ops[q]?).bind (·.dst)≠some d)
theorem HT {o:Oper} {a:Act} {d:Nat} {v:Value} (hg:∀q b,o.guard=some (q,b)→(ops[q]?).bind (·.dst)≠some d):Region.wanted o (yielded ops (a.put (some d) v).tmps)=Region.wanted o (yielded ops a.tmps):=by
 unfold Region.wanted
 cases e:o.guard with
 |none=>rfl
 |some qb=>
  obtain⟨q,b⟩:=qb
  have:=hg q b e
  have hy:yielded ops (a.put (some d) v).tmps q=yielded ops a.tmps q:=by
   unfold yielded
   cases e2:(ops[q]?).bind (·.dst) with
   |none=>rfl
   |some k=>
    have hk:d≠k:=fun e'=>this (by rw[e2,e'])
    show(match(a.tmps.setIfInBounds d v)[k]? with|some (.bool b)=>some b|_=>none)=_
    rw[Ud hk]
    rfl
  simp only[hy]
theorem zt {i0 d s:Nat} {o0:Oper} {n:Nat} {listed:Array Bool} {a:Act} {w:World} (hQ:∀e a w,Q e a w→e= .normal) (ho:ops[i0]?=some o0) (hop:o0.op= .move (.tmp s)) (hod:o0.dst=some d) (hog:o0.guard=none) (hoa:o0.after= #[]) (hE:CE ops i0 d s) (hlt:i0<ops.size)
 (hsz:listed.size=ops.size) (hun:listed.getD i0 false=false) (hh:wpAny P .any ops Q n (listed.setIfInBounds i0 true) (a.put (some d) (a.tmps.getD s undef)) w)
 (h:∀i,(i∈Region.ready .any ops listed∧i≠i0∧i∈Region.ready .any ops (listed.setIfInBounds i0 true))→wpOp P ops Q i (wpAny P .any ops Q n (listed.setIfInBounds i true)) a w):wpAny P .any ops Q (n+1) listed a w:=by
 have hr0:i0∈Region.ready .any ops listed:=by
  rw[mem_ready]
  refine⟨?_,o0,ho,fun e he=>by rw[hoa] at he;simp at he⟩
  rw[Td,Sj (by omega)] at hun ⊢
  simpa using hun
 refine⟨fun h0=>(by rw[h0] at hr0;cases hr0),fun i hi=>?_⟩
 by_cases hne:i=i0
 ·subst hne
  unfold wpOp
  simp only[ho]
  rw[if_pos (by simp[Region.wanted,hog])]
  refine .inl ?_
  unfold Oper.wp execOp
  rw[hop]
  show wpAny P .any ops Q n _ (a.put o0.dst (a.tmps.getD s undef)) w
  rw[hod]
  exact hh
 ·refine h i ⟨hi,hne,?_⟩
  obtain⟨h1,h2,o,h3,h4⟩:=ji hsz hi
  rw[mem_ready]
  refine⟨?_,o,h3,fun e he hb=>?_⟩
  ·have:(listed.setIfInBounds i0 true).getD i false=false:=by rw[bW (by omega),if_neg (Ne.symm hne)];exact h2
   rw[Td,Sj (by simp;omega)] at this ⊢
   simpa using this
  ·rw[bW (by omega)]
   split
   ·rfl
   ·exact h4 e he hb
theorem GB {i0 d s:Nat} {o0:Oper} (hQ:∀e a w,Q e a w→e= .normal) (ho:ops[i0]?=some o0) (hop:o0.op= .move (.tmp s)) (hod:o0.dst=some d) (hog:o0.guard=none) (hoa:o0.after= #[]) (hsd:s≠d) (hE:CE ops i0 d s):
 ∀(n:Nat) (listed:Array Bool) (a:Act) (w:World),listed.size=ops.size→listed.getD i0 false=false→wpAny P .any ops Q n (listed.setIfInBounds i0 true) (a.put (some d) (a.tmps.getD s undef)) w→wpAny P .any ops Q (n+1) listed a w:=by
 have hlt:i0<ops.size:=by
  rcases SV i0 ops.size with h|h
  ·exact h
  ·rw[SY h] at ho;cases ho
 intro n
 induction n with
 |zero=>
  intro listed a w hsz hun hh
  refine zt hQ ho hop hod hog hoa hE hlt hsz hun hh (fun i hi=>?_)
  have hi2:=hi.2.2;rw[hh.1] at hi2;cases hi2
 |succ n ih=>
  intro listed a w hsz hun hh
  refine zt hQ ho hop hod hog hoa hE hlt hsz hun hh (fun i hi=>?_)
  obtain⟨h1,h2,o,h3,h4⟩:=ji hsz hi.1
  have hne:=hi.2.1
  have hR:=hi.2.2
  have h5:=hh.2 i hR
  rcases hE i o h3 hne with⟨e,he,hb,hon⟩|⟨k1,k2,k3,k4⟩
  ·have:=h4 e he hb;rw[hon,hun] at this;cases this
  have hs2:(listed.setIfInBounds i true).size=ops.size:=by simpa using hsz
  have hun2:(listed.setIfInBounds i true).getD i0 false=false:=by rw[bW (by omega),if_neg hne];exact hun
  have key:∀a' w',a'.tmps.getD s undef=a.tmps.getD s undef→wpAny P .any ops Q n ((listed.setIfInBounds i0 true).setIfInBounds i true) (a'.put (some d) (a.tmps.getD s undef)) w'→wpAny P .any ops Q (n+1) (listed.setIfInBounds i true) a' w':=fun a' w' hs' hk=>by
   refine ih _ a' w' hs2 hun2 ?_
   rw[hs',Ue _ _ hne];exact hk
  unfold wpOp at h5 ⊢
  simp only[h3] at h5 ⊢
  rw[HT k4] at h5
  split
  ·rename_i hw
   rw[if_pos hw] at h5
   rcases h5 with h5|⟨_,a'',w'',h5⟩
   ·exact .inl (N7 hQ k1 k2 k3 key h5)
   ·have:=hQ _ _ _ h5;cases this
  ·rename_i hw
   rw[if_neg hw] at h5
   rw[p5 a o.dst d undef _ k2] at h5
   refine key _ w ?_ h5
   cases e:o.dst with
   |none=>rfl
   |some k=>
    have hk:k≠s:=fun e'=>k3 (by rw[e,e'])
    show(a.tmps.setIfInBounds k undef).getD s undef=a.tmps.getD s undef
    rw[Td,Td,Ud hk]
theorem GC {Q':Exit→Act→World→Prop} (hQ:∀e a w,Q e a w→Q' e a w):∀(n:Nat) (listed:Array Bool) (a:Act) (w:World),wpAny P .any ops Q n listed a w→wpAny P .any ops Q' n listed a w:=by
 intro n
 induction n with
 |zero=>exact fun _ _ _ h=>⟨h.1,hQ _ _ _ h.2⟩
 |succ n ih=>
  intro listed a w h
  refine⟨fun h0=>hQ _ _ _ (h.1 h0),fun i hi=>?_⟩
  have h2:=h.2 i hi
  unfold wpOp at h2 ⊢
  split
  ·rename_i e;simp only[e] at h2;exact ih _ _ _ h2
  ·rename_i o e
   simp only[e] at h2
   split
   ·rename_i hw
    rw[if_pos hw] at h2
    rcases h2 with h2|⟨h2,a',w',h3⟩
    ·exact .inl (oB hQ (Oper.wp_mono (fun a w=>ih _ a w) h2))
    ·exact .inr ⟨h2,a',w',hQ _ _ _ h3⟩
   ·rename_i hw
    rw[if_neg hw] at h2
    exact ih _ _ _ h2
end
def GT (ops:Array Oper) (i0 d s:Nat):Bool:=
 (match ops[i0]? with
  |some ⟨some d',.move (.tmp s'),_,_,af,none⟩=>d0 d' d&&d0 s' s&&af.toList.isEmpty
  |_=>false)&&!d0 s d&&(List.range ops.size).all fun j=>d0 j i0||(match ops[j]? with
   |some o=>(o.after.toList.any fun e=>Region.binds .any e&&d0 e.on i0)||(Kl d o.op&&(match o.dst with|some k=>!d0 k d&&!d0 k s|none=>true)&&
    (match o.guard with|some (q,_)=>(match(ops[q]?).bind (·.dst) with|some k=>!d0 k d|none=>true)|none=>true))
   |none=>false)
theorem O4 {a b:Nat} (h:(!d0 a b)=true):a≠b:=fun e=>by subst e;simp at h
theorem JU {ops:Array Oper} {i0 d s:Nat} (h:GT ops i0 d s=true):(∃o0,ops[i0]?=some o0∧o0.op= .move (.tmp s)∧o0.dst=some d∧o0.guard=none∧o0.after= #[])∧s≠d∧CE ops i0 d s:=by
 simp only[GT,hV] at h
 obtain⟨⟨h1,h2⟩,h3⟩:=h
 refine⟨?_,O4 h2,fun j o hj hne=>?_⟩
 ·split at h1
  ·rename_i d' s' ty ps af e
   simp only[hV] at h1
   obtain⟨⟨k1,k2⟩,k3⟩:=h1
   have e1:=RU k1
   have e2:=RU k2
   subst e1;subst e2
   refine⟨_,e,rfl,rfl,rfl,?_⟩
   have:af.toList=[]:=by simpa using k3
   exact Array.toList_eq_nil_iff.1 this
  ·cases h1
 ·have hlt:j<ops.size:=by
   rcases SV j ops.size with h|h
   ·exact h
   ·rw[SY h] at hj;cases hj
  have k:=List.all_eq_true.1 h3 j (by simpa using hlt)
  simp only[hj,SU,hV] at k
  rcases k with k|k|⟨⟨k1,k2⟩,k3⟩
  ·exact absurd (RU k) hne
  ·obtain⟨e,he,hb⟩:=List.any_eq_true.1 k
   simp only[hV] at hb
   exact .inl ⟨e,by simpa using he,hb.1,RU hb.2⟩
  ·refine .inr ⟨k1,fun e=>?_,fun e=>?_,fun q b hg e=>?_⟩
   ·rw[e] at k2;simp at k2
   ·rw[e] at k2;simp at k2
   ·simp only[hg,e] at k3;simp at k3
theorem Ok {P:Program} {N id:Nat} {l:List Oper} {sl:List (Nat×T)} {ob:List (Nat×Ob)} {nx:Nat} {AQ:Exit→St→Prop} (i0 d s:Nat) (is:List Nat) {r:List (Nat×Oper)} {t:T} (hm:P.follows .mixedOrders=true) (he:CX l.toArray=true) (hc:Oo l.length (i0::is)=true) (ho:Fy l is=some r)
 (hE:GT l.toArray i0 d s=true) (hd:nlt d N=true) (ht:gt sl s=t) (h:DZ P N l.toArray r [i0] [] [] ⟨(d,t)::sl,ob,nx⟩ ⟨(d,t)::sl,ob,nx⟩ (fun s=>AQ .normal s)):AWC P N (.region id l.toArray true) ⟨sl,ob,nx⟩ AQ:=by
 subst ht
 intro cx E a w hR
 refine wp_region_any hm ?_
 have hR':=vV hR
 obtain⟨⟨o0,e1,e2,e3,e4,e5⟩,hsd,hE⟩:=JU hE
 have hlt:i0<l.toArray.size:=by
  rcases SV i0 l.toArray.size with h|h
  ·exact h
  ·rw[SY h] at e1;cases e1
 have hdN:d<N:=cF hd
 have hedge:∀i o,l.toArray[i]?=some o→∀e∈o.after,Region.binds .any e=true→e.on<i:=by
  intro i o ho e hm hb
  have hi:i<l.toArray.size:=by
   rcases SV i l.toArray.size with h|h
   ·exact h
   ·rw[SY h] at ho;cases ho
  have:=List.all_eq_true.1 he i (by simpa using hi)
  simp only[ho] at this
  have:=List.all_eq_true.1 this e (by simpa using hm)
  simp only[hb,Bool.not_true,Bool.false_or] at this
  exact cF this
 have hfull:unl l.toArray (SR l.toArray.size false)=l.toArray.size:=by
  unfold unl
  rw[List.filter_eq_self.2]
  ·simp
  ·intro i hi;rw[eV];rfl
 have hst:=oy (ops:=l.toArray) (listed:=SR l.toArray.size false) (i:=i0) (by simp) hlt (eV _ _)
 rw[hfull] at hst
 have hcl:rK l.toArray ((SR l.toArray.size false).setIfInBounds i0 true):=rS (by simp) hlt e1 (fun e he=>by rw[e5] at he;simp at he) (fun i o ho hd=>by rw[eV] at hd;cases hd)
 have hR2:Rel N cx E ⟨(d,gt sl s)::sl,ob,nx⟩ (a.put (some d) (a.tmps.getD s undef)) {w with drawn:=w.drawn+1}:=by
  refine⟨hR'.ok,hR'.dom,hR'.obs,fun k=>?_,hR'.dfr,by simpa [Act.put] using hR'.size,hR'.td⟩
  rw[f8 (by rw[hR'.size];exact hdN)]
  by_cases hk:d=k
  ·subst hk;rw[dJ,if_pos rfl];exact hR'.sl s
  ·rw[cN _ _ hk,if_neg hk];exact hR'.sl k
 have key:=LO (P:=P) (cx:=cx) (Q:=fun e a w=>e= .normal∧zN N cx AQ .normal a w) (LP hedge) (fun E st a w hR hK=>⟨rfl,E,st,hR,hK⟩) h rfl (fun q hq=>by have:=(nW ho).1 q hq;simpa using this) (fun j hj=>by
  have hj':j<l.length:=by simpa using hj
  have:=List.all_eq_true.1 hc j (by simpa using hj')
  rcases List.mem_cons.1 (eT.1 this) with e|e
  ·subst e;exact .inr (.inl (by simp))
  ·exact .inr (.inr ((nW ho).2 j e))) (fun i o y _ hy=>by simp at hy) (fun k=>rfl) rfl rfl ((SR l.toArray.size false).setIfInBounds i0 true) _ _ E (by simp) hcl (fun j=>by
   rw[bW (by simpa using hlt)]
   split
   ·rename_i e;subst e;simp[pH]
   ·rename_i e;rw[eV];symm;rw[Bool.eq_false_iff];intro h;have:=eT.1 h;simp at this;exact e this.symm) hR2
 have k2:=GB (fun e a w h=>h.1) e1 e2 e3 e4 e5 hsd hE _ (SR l.toArray.size false) a {w with drawn:=w.drawn+1} (by simp) (eV _ _) key
 rw[←hst] at k2
 exact GC (fun e a w h=>by obtain⟨h1,h2⟩:=h;subst h1;exact h2) _ _ _ _ k2
end Go.AM
namespace Go.AM
open Go.RowKit
section
variable {P:Program} {N:Nat} {d:Tmp} {x y:Operand} {ty:TypeId} {ps:String} {af:Array Edge} {gd:Option (Nat×Bool)} {sl:List (Nat×T)} {ob:List (Nat×Ob)} {nx:Nat}
end
end Go.AM
