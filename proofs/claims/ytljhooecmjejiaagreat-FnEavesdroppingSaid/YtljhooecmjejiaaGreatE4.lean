/- A part. -/
import Derived.Test.YtljhooecmjejiaaGreatE3
import Derived.Laws.BytesString
set_option linter.unusedVariables false
set_option linter.unusedSimpArgs false
open List renaming getElem?_eq_getElem→v0,mem_of_getElem?→Tn,pairwise_iff_getElem→Uh,getElem?_eq_some_iff→Tm,filter_cons_of_pos→Uj,filter_cons_of_neg→Uk,range→TU,length_cons→TY,mem_cons→Tq,mem_append→TW,getElem?_take→TB,exists_mem_of_ne_nil→UT,cons_append→TD,any_eq_true→Ug,mem_map→Ur,length_map→Us,all_cons→TF,map_cons→Uu,take_succ_cons→TI,mem_singleton→UJ,filter_congr→UU,any_eq_false→UQ,all_eq_true→TX,nodup_range→UV,map_append→UK,nodup_cons→Un,mem_filter→UO,mem_range→UP,any_cons→UX,map_nil→UN
open Bool renaming false_ne_true→UI,or_eq_false_iff→Ua,not_eq_true'→Ue,or_eq_true→T8,eq_false_iff→UL,and_eq_true→hV
open Array renaming getElem?_eq_getElem→TA,replicate→TZ,getElem?_eq_none→Ub,getD_eq_getD_getElem?→Uf,setIfInBounds_eq_of_size_le→UW,getElem?_append_left→UR
open Nat renaming beq→d0,eq_of_beq_eq_true→To,le_refl→Tt,lt_or_ge→T9,zero_add→Tv,le_of_ble_eq_true→UM,lt_trichotomy→US,add_zero→TO,zero_le→Ud
namespace Go.AM
open Go.RowKit
def E0 (b c:Nat) (F:Nat→Prop):Env:={r:=fun o=>if o=200 then some (b,c) else none,F:=F,G:=fun _=>False}
def E1 (b c:Nat) (F G:Nat→Prop):Env:={r:=fun o=>if o=200 then some (b,c) else none,F:=fun x=>F x∨G x,G:=G}
def TV (E:Env) (w:World):List T→List Value→Prop
 |[],[]=>True
 |t::ts,u::us=>cvT E w t u∧TV E w ts us
 |_,_=>False
structure FnW (P:Program) (f:FuncId) (x:Ob) (args:List T) (y:Ob) (res:List RV):Prop where
 enters:∀(vs:Array Value) (w:World),(callFunc f vs).run P w= .ok (.enter f vs) w
 calls:∀(F:Nat→Prop) (w:World) (vals:Array Value) (b c:Nat),(∀b,F b→b<w.heap.size)→b<w.heap.size→TabsIn w→(∀k∈rC,k≠b)→cy (E0 b c F) w 200 x→TV (E0 b c F) w args vals.toList→
  Calls P f vals w fun e w'=>∃v G bs,e= .returned v∧DN w w' (fun k=>k=b)∧(∀k,G k→w.heap.size≤k∧k<w'.heap.size∧gA w' k)∧vJ w' G w.heap.size res v bs∧(bs.map (·.1)).Nodup∧cy (E1 b c F G) w' 200 y
def C.free:C→Bool
 | .d _ _| .nil| .any| .fn _=>true
 |_=>false
def Ob.free:Ob→Bool
 | .var _ cs=>cs.all C.free
 | .row _ _ _ _ m=>m
 | .rown .. | .abs .. =>false
theorem MF {E E':Env} {w w':World} (hH:∀g b,E.H g b→E'.H g b) (hh:∀g b,E.H g b→w'.heap[b]?=w.heap[b]?):∀{c:C} {u:Value},c.free=true→cvC E w c u→cvC E' w' c u
 | .d g d,u,_,h=>cj (hh g) (hH g) d u h
 | .fn f,u,_,h=>h
 | .nil,u,_,h=>h
 | .any,u,_,_=>trivial
theorem DG {E E':Env} {w w':World} (hH:∀g b,E.H g b→E'.H g b) (hh:∀g b,E.H g b→w'.heap[b]?=w.heap[b]?):∀{cs:List C} {us:List Value},cs.all C.free=true→CV E w cs us→CV E' w' cs us
 |[],[],_,_=>trivial
 |c::cs,u::us,hf,h=>by
  simp only[TF,hV] at hf
  exact⟨MF hH hh hf.1 h.1,DG hH hh hf.2 h.2⟩
 |[],_::_,_,h=>h.elim
 |_::_,[],_,h=>h.elim
theorem vH {E E':Env} {w w':World} {o o':Nat} {x:Ob} (hf:x.free=true) (hr:∀b c,E.r o=some (b,c)→E'.r o'=some (b,c)) (hH:∀g b,E.H g b→E'.H g b) (hh:∀g b,E.H g b→w'.heap[b]?=w.heap[b]?)
 (hb:∀b c,E.r o=some (b,c)→w'.heap[b]?=w.heap[b]?) (hF:∀b c,E.r o=some (b,c)→¬E.F b→¬E'.F b) (h:cy E w o x):cy E' w' o' x:=by
 cases x with
 |rown ty sz els g=>exact absurd hf UI
 |abs l y=>exact absurd hf UI
 |var ty cs=>
  obtain⟨b,c,arr,h1,h2,h3,h4⟩:=h
  exact⟨b,c,arr,hr b c h1,(hb b c h1).trans h2,DG hH hh hf h3,hF b c h1 h4⟩
 |row ty sz els g m=>
  obtain⟨b,c,arr,h1,h2,h3,h4,h5,h6,h7,h8,h9⟩:=h
  have hm:m=true:=hf
  subst hm
  exact⟨b,c,arr,hr b c h1,(hb b c h1).trans h2,h3,h4,h5,h6,cm (hh g) (hH g) (hb b c h1) _ _ h7,fun _=>hF b c h1 (h8 rfl),fun h=>by cases h⟩
def C.loc:C→C
 | .d _ x=>.d false x
 |c=>c
def Ob.loc:Ob→Ob
 | .var ty cs=>.var ty (cs.map C.loc)
 | .row ty sz els _ m=>.row ty sz els false m
 | .rown ty sz els _=>.rown ty sz els false
 | .abs l y=>.abs l y
theorem PC {cx:Cx} {E:Env} {w:World} (ok:cQ cx E w) {c:C} {u:Value} (h:cvC E w c u):cvC E w c.loc u:=by
 cases c with
 |d g x=>exact mY (g':=false) ok h (by simp)
 |_=>exact h
theorem Mc {cx:Cx} {E:Env} {w:World} (ok:cQ cx E w):∀{cs:List C} {us:List Value},CV E w cs us→CV E w (cs.map C.loc) us
 |[],[],_=>trivial
 |c::cs,u::us,h=>⟨PC ok h.1,Mc ok h.2⟩
 |[],_::_,h=>h.elim
 |_::_,[],h=>h.elim
theorem Di {cx:Cx} {E:Env} {w:World} (ok:cQ cx E w) {o:Nat} {x:Ob} (hf:x.free=true) (h:cy E w o x):cy E w o x.loc:=by
 cases x with
 |rown ty sz els g=>exact absurd hf UI
 |abs l y=>exact absurd hf UI
 |var ty cs=>
  obtain⟨b,c,arr,h1,h2,h3,h4⟩:=h
  exact⟨b,c,arr,h1,h2,Mc ok h3,h4⟩
 |row ty sz els g m=>
  obtain⟨b,c,arr,h1,h2,h3,h4,h5,h6,h7,h8,h9⟩:=h
  have hm:m=true:=hf
  subst hm
  refine⟨b,c,arr,h1,h2,h3,h4,h5,h6,?_,h8,fun h=>by cases h⟩
  cases g with
  |false=>exact h7
  |true=>exact cm (fun _ _=>rfl) (fun b hb=>ok.gf b hb) rfl _ _ h7
def sK:Nat→List T→List (Nat×T)
 |_,[]=>[]
 |k,t::ts=>(k,t)::sK (k+1) ts
theorem zv {E:Env} {w:World}:∀{ts:List T} {us:List Value} (k0:Nat),TV E w ts us→us.length=ts.length∧∀k,(k0≤k∧k<k0+ts.length→∃u,us[k-k0]?=some u∧cvT E w (gt (sK k0 ts) k) u)∧(¬(k0≤k∧k<k0+ts.length)→gt (sK k0 ts) k= .any)
 |[],[],k0,_=>⟨rfl,fun k=>⟨fun h=>by simp at h;omega,fun _=>rfl⟩⟩
 |t::ts,u::us,k0,h=>by
  obtain⟨h1,h2⟩:=zv (k0+1) h.2
  refine⟨by simp[h1],fun k=>⟨fun hk=>?_,fun hk=>?_⟩⟩
  ·by_cases e:k0=k
   ·subst e;exact⟨u,by simp,by rw[sK,dL];exact h.1⟩
   ·obtain⟨v,k1,k2⟩:=(h2 k).1 (by simp at hk;omega)
    refine⟨v,?_,by rw[sK,cR _ _ e];exact k2⟩
    rw[show k-k0=(k-(k0+1))+1 from by simp at hk;omega];simpa using k1
  ·simp at hk
   rw[sK,cR _ _ (by omega)]
   exact(h2 k).2 (by omega)
 |[],_::_,_,h=>h.elim
 |_::_,[],_,h=>h.elim
theorem F8 {ob:List (Nat×Ob)} {c:C} {r:RC} {ls:List Nat} (h:sS ob c=some (r,ls)):∀l∈ls,∃ty sz els,go ob l=some (.row ty sz els true true):=by
 cases c with
 |d g x=>cases x<;>(try cases g)<;>simp[sS] at h<;>obtain⟨rfl,rfl⟩:=h<;>simp
 |w o n=>
  simp only[sS] at h
  split at h
  ·rename_i ty sz els ho hrv
   simp at h;obtain⟨rfl,rfl⟩:=h
   simpa using⟨ty,sz,els,ho⟩
  ·cases h
 |nil=>simp[sS] at h;obtain⟨rfl,rfl⟩:=h;simp
 |_=>simp[sS] at h
theorem CO {ob:List (Nat×Ob)}:∀{cs:List C} {rs:List RC} {ls:List Nat},yF ob cs=some (rs,ls)→∀l∈ls,∃ty sz els,go ob l=some (.row ty sz els true true)
 |[],rs,ls,h=>by simp[yF] at h;obtain⟨rfl,rfl⟩:=h;simp
 |c::cs,rs,ls,h=>by
  simp only[yF] at h
  split at h
  ·rename_i r l rs' ls' h1 h2
   simp at h;obtain⟨rfl,rfl⟩:=h
   intro x hx
   rcases TW.1 hx with hx|hx
   ·exact F8 h1 x hx
   ·exact CO h2 x hx
  ·cases h
theorem M4 {ob:List (Nat×Ob)} {v:V} {r:RV} {ls:List Nat} (h:Ic ob v=some (r,ls)):∀l∈ls,∃ty sz els,go ob l=some (.row ty sz els true true):=by
 cases v with
 |c c=>
  simp only[Ic] at h
  split at h
  ·rename_i r l h1;simp at h;obtain⟨rfl,rfl⟩:=h;exact F8 h1
  ·cases h
 |agg cs=>
  simp only[Ic] at h
  split at h
  ·rename_i r l h1;simp at h;obtain⟨rfl,rfl⟩:=h;exact CO h1
  ·cases h
theorem CP {ob:List (Nat×Ob)}:∀{cs:List V} {rs:List RV} {ls:List Nat},uY ob cs=some (rs,ls)→∀l∈ls,∃ty sz els,go ob l=some (.row ty sz els true true)
 |[],rs,ls,h=>by simp[uY] at h;obtain⟨rfl,rfl⟩:=h;simp
 |c::cs,rs,ls,h=>by
  simp only[uY] at h
  split at h
  ·rename_i r l rs' ls' h1 h2
   simp at h;obtain⟨rfl,rfl⟩:=h
   intro x hx
   rcases TW.1 hx with hx|hx
   ·exact M4 h1 x hx
   ·exact CP h2 x hx
  ·cases h
theorem PW {P:Program} {N:Nat} {cx:Cx} {E:Env} {st:St} {a:Act} {w:World} (hR:Rel N cx E st a w) {fn:Func} {res:List RV} (h:Fin P fn.results.toList res st):
 ∃v bs,(results fn a.tmps).run P w= .ok v w∧vJ w E.G cx.w0.heap.size res v bs∧(bs.map (·.1)).Nodup∧∀p∈bs,¬E.F p.1:=by
 obtain⟨vs,ls,h1,h2,h3⟩:=h
 obtain⟨us,k1,k2⟩:=sF hR h1
 obtain⟨bs,m1,m2,m3⟩:=Ay hR h2 k2
 have hnd:(bs.map (·.1)).Nodup:=by
  have hnl:=ij h3
  refine Uh.2 fun i j hi hj hij he=>?_
  simp only[Us] at hi hj
  obtain⟨p,p1,p2⟩:=m3 i ls[i] (v0 (by omega))
  obtain⟨q,q1,q2⟩:=m3 j ls[j] (v0 (by omega))
  rw[v0 hi] at p1
  rw[v0 hj] at q1
  cases p1;cases q1
  simp only[List.getElem_map] at he
  rcases hbi:bs[i] with⟨b1,c1⟩
  rcases hbj:bs[j] with⟨b2,c2⟩
  rw[hbi,hbj] at he
  rw[hbi] at p2;rw[hbj] at q2
  have hb:b1=b2:=he
  subst hb
  exact Uh.1 hnl i j (by omega) (by omega) hij (hR.ok.inj _ _ _ _ _ p2 q2)
 have hnF:∀p∈bs,¬E.F p.1:=by
  intro p hp
  obtain⟨i,hi,rfl⟩:=List.getElem_of_mem hp
  have hl:i<ls.length:=by omega
  obtain⟨q,q1,q2⟩:=m3 i ls[i] (v0 hl)
  rw[v0 hi] at q1;cases q1
  obtain⟨ty,sz,els,hg⟩:=CP h2 ls[i] (List.getElem_mem hl)
  obtain⟨b,c,arr,r1,r2,r3,r4,r5,r6,r7,r8,r9⟩:=hR.obs _ _ hg
  rw[q2] at r1
  rw[Option.some.inj r1]
  exact r8 rfl
 have hm:(fn.results.mapM (ke a.tmps)).run P w= .ok us.toArray w:=by
  rw[←Array.toArray_toList (xs:=fn.results),List.mapM_toArray]
  simp only[Sem.run_map,k1]
  rfl
 have hres:results fn a.tmps=(fn.results.mapM (ke a.tmps))>>= fun vs=>pure (if h:vs.size=1 then vs[0] else .tuple vs):=rfl
 have hlen:us.length=vs.length:=by
  have key:∀(vs:List V) (us:List Value),VV E w vs us→us.length=vs.length:=by
   intro vs
   induction vs with
   |nil=>intro us h;cases us with
    |nil=>rfl
    |cons _ _=>exact h.elim
   |cons v vs ih=>intro us h;cases us with
    |nil=>exact h.elim
    |cons u us=>simp[ih us h.2]
  exact key vs us k2
 have hlen2:us.length=res.length:=by
  have key:∀(rs:List RV) (us:List Value) (bs:List (Nat×Nat)),zk w E.G cx.w0.heap.size rs us bs→us.length=rs.length:=by
   intro rs
   induction rs with
   |nil=>intro us bs h;cases us with
    |nil=>rfl
    |cons _ _=>exact h.elim
   |cons v vs ih=>intro us bs h;cases us with
    |nil=>exact h.elim
    |cons u us=>obtain⟨b1,b2,_,_,h⟩:=h;simp[ih us b2 h]
  exact key res us bs m1
 match res,us,m1,hlen2 with
 |[],[],m1,_=>exact⟨.tuple #[],bs,by rw[hres];simp[hm],⟨#[],rfl,m1⟩,hnd,hnF⟩
 |[r],[u],m1,_=>
  obtain⟨b1,b2,rfl,h4,h5⟩:=m1
  have:b2=[]:=h5
  subst this
  exact⟨u,b1++[],by rw[hres];simp[hm],by simpa [vJ] using h4,hnd,hnF⟩
 |r1::r2::rs,u1::u2::us,m1,_=>
  exact⟨.tuple (u1::u2::us).toArray,bs,by rw[hres];simp[hm],⟨_,rfl,m1⟩,hnd,hnF⟩
theorem GY {w:World} {G G2:Nat→Prop} {base:Nat} (hG:∀b,G b→G2 b) {r:RC} {u:Value} {bs:List (Nat×Nat)} (h:rcR w G base r u bs) (hn:∀p∈bs,¬G2 p.1):rcR w G2 base r u bs:=by
 cases r with
 |d x=>exact⟨h.1,cj (fun _ _=>rfl) hG x u h.2⟩
 |own ty sz els n=>
  obtain⟨b,c,arr,h1,h2,h3,h4,h5,h6,h7,h8,h9,h10⟩:=h
  exact⟨b,c,arr,h1,h2,h3,h4,h5,h6,h7,cm (fun _ _=>rfl) hG rfl _ _ h8,hn (b,c) (by rw[h1];simp),h10⟩
 |nil=>exact h
theorem De {w:World} {G G2:Nat→Prop} {base:Nat} (hG:∀b,G b→G2 b):∀{rs:List RC} {us:List Value} {bs:List (Nat×Nat)},Cl w G base rs us bs→(∀p∈bs,¬G2 p.1)→Cl w G2 base rs us bs
 |[],[],bs,h,_=>h
 |r::rs,u::us,bs,h,hn=>by
  obtain⟨b1,b2,rfl,h1,h2⟩:=h
  exact⟨b1,b2,rfl,GY hG h1 (fun p hp=>hn p (by simp[hp])),De hG h2 (fun p hp=>hn p (by simp[hp]))⟩
 |[],_::_,_,h,_=>h.elim
 |_::_,[],_,h,_=>h.elim
theorem G8 {w:World} {G G2:Nat→Prop} {base:Nat} (hG:∀b,G b→G2 b) {r:RV} {u:Value} {bs:List (Nat×Nat)} (h:rvR w G base r u bs) (hn:∀p∈bs,¬G2 p.1):rvR w G2 base r u bs:=by
 cases r with
 |c r=>exact GY hG h hn
 |agg rs=>obtain⟨arr,h1,h2⟩:=h;exact⟨arr,h1,De hG h2 hn⟩
theorem yi {w:World} {G G2:Nat→Prop} {base:Nat} (hG:∀b,G b→G2 b):∀{rs:List RV} {us:List Value} {bs:List (Nat×Nat)},zk w G base rs us bs→(∀p∈bs,¬G2 p.1)→zk w G2 base rs us bs
 |[],[],bs,h,_=>h
 |r::rs,u::us,bs,h,hn=>by
  obtain⟨b1,b2,rfl,h1,h2⟩:=h
  exact⟨b1,b2,rfl,G8 hG h1 (fun p hp=>hn p (by simp[hp])),yi hG h2 (fun p hp=>hn p (by simp[hp]))⟩
 |[],_::_,_,h,_=>h.elim
 |_::_,[],_,h,_=>h.elim
theorem LN {w:World} {G G2:Nat→Prop} {base:Nat} (hG:∀b,G b→G2 b) {rs:List RV} {u:Value} {bs:List (Nat×Nat)} (h:vJ w G base rs u bs) (hn:∀p∈bs,¬G2 p.1):vJ w G2 base rs u bs:=by
 match rs,h with
 |[],h=>obtain⟨arr,h1,h2⟩:=h;exact⟨arr,h1,yi hG h2 hn⟩
 |[r],h=>exact G8 hG h hn
 |_::_::_,h=>obtain⟨arr,h1,h2⟩:=h;exact⟨arr,h1,yi hG h2 hn⟩
def Fy (N:Nat) (P:Program) (rs:List ResultVar) (res:List RV) (y:Ob):Exit→St→Prop
 | .ret,s| .normal,s=>∃s',cZ N s s'∧Fin P rs res s'∧go s'.ob 200=some y
 |_,_=>False
instance {N:Nat} {P:Program} {rs:List ResultVar} {res:List RV} {y:Ob}:Clo N (Fy N P rs res y):=⟨fun e s m hw h=>by
 cases e<;>simp only[Fy] at h ⊢<;>first|exact h|(obtain⟨s',h1,h2⟩:=h;exact⟨s',an hw h1,h2⟩)⟩
theorem RO {P:Program} {f:FuncId} {fn:Func} {c:Code} {N:Nat} {x y:Ob} {args:List T} {rs:List ResultVar} {res:List RV} {sl0:List (Nat×T)} (hf:P.funcs[f]?=some fn) (hb:fn.body=some c:=by exact rfl) (hnm:(fn.name== "runtime.NumGoroutine")=false:=by kernel_rfl) (hN:fn.ntmps=N) (hrs:fn.results.toList=rs:=by exact rfl)
 (ha:Nat.ble args.length N=true:=by exact rfl) (hfx:x.free=true:=by exact rfl) (hfy:y.free=true:=by exact rfl) (hs:sK 0 args=sl0:=by exact rfl) (h:AWC P N c ⟨sl0,[(200,x)],210⟩ (Fy N P rs res y)):FnW P f x args y res:=by
 subst hs
 refine⟨fun vs w=>by simp[callFunc,hf,hb];simpa using hnm,fun F w vals b cc hF hbl hT hTb hx hA=>?_⟩
 subst hrs
 refine calls_of_wp hf hb ?_
 obtain⟨h1,h2⟩:=zv 0 hA
 have hle:args.length≤N:=UM ha
 have hsz:vals.size=args.length:=by simpa using h1
 have hrv:rsv 200=true:=rfl
 have hrp:rsp 200=true:=rfl
 have hbF:¬F b:=by
  cases x with
  |rown ty sz els g=>exact absurd hfx UI
  |abs l y=>exact absurd hfx UI
  |var ty cs=>obtain⟨b',c',arr,h1,h2,h3,h4⟩:=hx;cases h1;exact h4
  |row ty sz els g m=>
   obtain⟨b',c',arr,h1,h2,h3,h4,h5,h6,h7,h8,h9⟩:=hx
   cases h1
   have hm:m=true:=hfx
   subst hm
   exact h8 rfl
 have hr0:∀o p,(E0 b cc F).r o=some p→o=200∧p=(b,cc):=fun o p h=>by
  simp only[E0] at h
  split at h
  ·cases h;exact⟨by assumption,rfl⟩
  ·cases h
 have hR:Rel N ⟨w,fun k=>k=b,(E0 b cc F).r,F,fun _=>False,⟨hT,hTb⟩,fun _=>False⟩ (E0 b cc F) ⟨sK 0 args,[(200,x)],210⟩ {tmps:=vals++TZ (fn.ntmps-vals.size) undef,defers:=[]} w:=by
  refine⟨⟨hF,fun _ h=>h.elim,fun _ h=>h.elim,fun o k k' h=>?_,fun o o' k k' k'' h h'=>?_,rfl,rfl,rfl,Tt _,fun _ _ _=>rfl,fun _ _ _ h=>h,fun _ h=>.inl h,fun b h h'=>absurd (hF b h) (by have:w.heap.size≤b:=h';omega),⟨fun _ _ h=>h.elim,fun _ _ _ h=>h.elim,fun _ h=>h.elim,fun _ h=>h.elim,fun _ h=>h.elim⟩⟩,fun o p h=>?_,fun o ob h=>?_,fun k=>?_,rfl,by simp;omega,fun _ _ h=>h.elim⟩
  ·obtain⟨rfl,hp⟩:=hr0 _ _ h;cases hp;exact⟨hbl,.inr ⟨rfl,hrv⟩⟩
  ·rw[(hr0 _ _ h).1,(hr0 _ _ h').1]
  ·rw[(hr0 _ _ h).1];exact(by decide:200<210)
  ·by_cases e:200=o
   ·subst e;rw[cg] at h;cases h;exact hx
   ·rw[bA _ _ e] at h;cases h
  ·by_cases hk:k<args.length
   ·obtain⟨u,h3,h4⟩:=(h2 k).1 ⟨Ud _,by omega⟩
    have:(vals++TZ (fn.ntmps-vals.size) undef).getD k undef=u:=by
     have h5:vals[k]?=some u:=by simpa using h3
     have h6:(vals++TZ (fn.ntmps-vals.size) undef)[k]?=some u:=by rw[UR (by omega)];exact h5
     simp[h6]
    rw[this];exact h4
   ·have:=(h2 k).2 (by omega)
    show cvT _ w (gt (sK 0 args) k) _
    rw[this];trivial
 refine wp_mono (h _ _ _ w hR) ?_
 rintro e a' w' ⟨E',s',hR',hq⟩
 have fin:(∃s'',cZ N s' s''∧Fin P fn.results.toList res s''∧go s''.ob 200=some y)→
  a'.defers=[]∧∃v,(results fn a'.tmps).run P w'= .ok v w'∧∃v' G bs,Ending.returned v= .returned v'∧DN w w' (fun k=>k=b)∧(∀k,G k→w.heap.size≤k∧k<w'.heap.size∧gA w' k)∧vJ w' G w.heap.size res v' bs∧(bs.map (·.1)).Nodup∧cy (E1 b cc F G) w' 200 y:=by
  rintro⟨s'',hw,hfin,hgo⟩
  obtain⟨E'',hR''⟩:=hw _ _ _ _ hR'
  obtain⟨v,bs,k1,k2,k3,k4⟩:=PW hR'' hfin
  have ok:=hR''.ok
  refine⟨hR''.dfr,v,k1,v,fun k=>E''.F k∧w.heap.size≤k,bs,rfl,⟨ok.os,ok.tape,ok.output,ok.size,ok.block⟩,fun k hk=>⟨hk.2,ok.fb k hk.1,ok.gc k hk.1 hk.2⟩,LN (fun k hk=>⟨ok.gf k hk,(ok.gn k hk).resolve_right id⟩) k2 (fun p hp hg=>k4 p hp hg.1),k3,?_⟩
  refine vH hfy (fun k c hk=>?_) (fun g k hk=>?_) (fun _ _ _=>rfl) (fun _ _ _=>rfl) (fun k c hk hn hk'=>?_) (hR''.obs _ _ hgo)
  ·have:=ok.pin 200 _ hrp hk
   exact this
  ·cases g with
   |false=>
    rcases ok.ff k hk with h|h
    ·exact .inl h
    ·exact .inr ⟨hk,h⟩
   |true=>exact⟨ok.gf k hk,(ok.gn k hk).resolve_right id⟩
  ·rcases hk' with h|h
   ·have:=ok.pin 200 _ hrp hk
    have h9:=hr0 200 (k,c) this
    cases h9.2
    exact hbF h
   ·exact hn h.1
 cases e with
 |normal=>exact fin hq
 |ret=>exact fin hq
 |_=>exact hq.elim
def uP (nob:List (Nat×Ob)) (o:Nat):C→Option (C×List (Nat×Nat))
 | .p l k=>bif d0 l o then some (.p 200 k,[]) else none
 | .w l n=>bif d0 l o then some (.w 200 n,[]) else match wk nob (.w l n) with
  |some (x,e)=>some (.d false x,e)
  |none=>none
 | .nil=>some (.nil,[])
 |c=>match wk nob c with
  |some (x,e)=>some (.d false x,e)
  |none=>none
def GA (nob:List (Nat×Ob)) (o:Nat):List C→Option (List C×List (Nat×Nat))
 |[]=>some ([],[])
 |c::cs=>match uP nob o c,GA nob o cs with
  |some (x,e),some (xs,e')=>some (x::xs,e++e')
  |_,_=>none
def R5 (nob:List (Nat×Ob)) (o:Nat):T→Option (T×List (Nat×Nat))
 | .v (.c c)=>match uP nob o c with
  |some (x,e)=>some (.v (.c x),e)
  |none=>none
 | .v (.agg cs)=>match GA nob o cs with
  |some (x,e)=>some (.v (.agg x),e)
  |none=>none
 |_=>none
def yK (nob:List (Nat×Ob)) (o:Nat):List T→Option (List T×List (Nat×Nat))
 |[]=>some ([],[])
 |c::cs=>match R5 nob o c,yK nob o cs with
  |some (x,e),some (xs,e')=>some (x::xs,e++e')
  |_,_=>none
section
variable {cx:Cx} {E:Env} {w:World} {nob:List (Nat×Ob)} {o b c0:Nat} (ok:cQ cx E w) (hob:∀l x,go nob l=some x→cy E w l x) (hr:E.r o=some (b,c0))
include ok hob hr
theorem JV {c:C} {x:C} {e:List (Nat×Nat)} {u:Value} (h:uP nob o c=some (x,e)) (he:Eqs e) (hc:cvC E w c u):cvC (E0 b c0 (jt E nob)) w x u:=by
 have gen:∀{c x e},(match wk nob c with|some (x,e)=>some (C.d false x,e)|none=>none)=some (x,e)→Eqs e→cvC E w c u→cvC (E0 b c0 (jt E nob)) w x u:=by
  intro c x e h he hc
  split at h
  ·rename_i y e' h1
   simp at h;obtain⟨rfl,rfl⟩:=h
   exact zx ok hob h1 he hc
  ·cases h
 cases c with
 |p l k=>
  simp only[uP] at h
  cases hb:d0 l o with
  |false=>rw[hb] at h;cases h
  |true=>
   rw[hb] at h;simp at h;obtain⟨rfl,rfl⟩:=h
   have:=To hb;subst this
   obtain⟨b',c',h1,h2⟩:=hc
   rw[hr] at h1;cases h1
   exact⟨b,c0,by simp[E0],h2⟩
 |w l n=>
  simp only[uP] at h
  cases hb:d0 l o with
  |false=>rw[hb] at h;exact gen h he hc
  |true=>
   rw[hb] at h;simp at h;obtain⟨rfl,rfl⟩:=h
   have:=To hb;subst this
   obtain⟨b',c',h1,h2⟩:=hc
   rw[hr] at h1;cases h1
   exact⟨b,c0,by simp[E0],h2⟩
 |nil=>simp[uP] at h;obtain⟨rfl,rfl⟩:=h;exact hc
 |d g y=>exact gen (by simpa only[uP] using h) he hc
 |s o sz off len=>exact gen (by simpa only[uP] using h) he hc
 |e o sz i j=>exact gen (by simpa only[uP] using h) he hc
 |q g x j=>exact gen (by simpa only[uP] using h) he hc
 |fn f=>exact gen (by simpa only[uP] using h) he hc
 |any=>exact gen (by simpa only[uP] using h) he hc
 |r l x=>exact gen (by simpa only[uP] using h) he hc
 |z x=>exact gen (by simpa only[uP] using h) he hc
 |zq x j=>exact gen (by simpa only[uP] using h) he hc
 |wn l n=>exact gen (by simpa only[uP] using h) he hc
theorem GB:∀{cs xs:List C} {e:List (Nat×Nat)} {us:List Value},GA nob o cs=some (xs,e)→Eqs e→CV E w cs us→CV (E0 b c0 (jt E nob)) w xs us
 |[],xs,e,us,h,he,hc=>by simp[GA] at h;obtain⟨rfl,rfl⟩:=h;cases us with
  |nil=>trivial
  |cons _ _=>exact hc.elim
 |c::cs,xs,e,us,h,he,hc=>by
  simp only[GA] at h
  split at h
  ·rename_i x e1 xs' e2 h1 h2
   simp at h;obtain⟨rfl,rfl⟩:=h
   obtain⟨g1,g2⟩:=ea he
   cases us with
   |nil=>exact hc.elim
   |cons u us=>exact⟨JV ok hob hr h1 g1 hc.1,GB h2 g2 hc.2⟩
  ·cases h
theorem Qb {t t':T} {e:List (Nat×Nat)} {u:Value} (h:R5 nob o t=some (t',e)) (he:Eqs e) (hc:cvT E w t u):cvT (E0 b c0 (jt E nob)) w t' u:=by
 unfold R5 at h
 split at h
 ·split at h
  ·rename_i c x e' h1;simp at h;obtain⟨rfl,rfl⟩:=h;exact JV ok hob hr h1 he hc
  ·cases h
 ·split at h
  ·rename_i cs x e' h1;simp at h;obtain⟨rfl,rfl⟩:=h
   obtain⟨arr,hu,hc⟩:=hc
   exact⟨arr,hu,GB ok hob hr h1 he hc⟩
  ·cases h
 ·cases h
theorem AP {a:Act}:∀{ts ts':List T} {e:List (Nat×Nat)} {args:List Operand},yK nob o ts=some (ts',e)→Eqs e→ts.length=args.length→(∀x t,(x,t)∈args.zip ts→cvT E w t (a.eval x))→TV (E0 b c0 (jt E nob)) w ts' (args.map a.eval)
 |[],ts',e,args,h,he,hl,hn=>by
  simp[yK] at h;obtain⟨rfl,rfl⟩:=h
  cases args with
  |nil=>trivial
  |cons _ _=>simp at hl
 |t::ts,ts',e,args,h,he,hl,hn=>by
  simp only[yK] at h
  split at h
  ·rename_i x e1 xs' e2 h1 h2
   simp at h;obtain⟨rfl,rfl⟩:=h
   obtain⟨g1,g2⟩:=ea he
   cases args with
   |nil=>simp at hl
   |cons y args=>exact⟨Qb ok hob hr h1 g1 (hn y t (by simp)),AP h2 g2 (by simpa using hl) (fun x t hm=>hn x t (by simp[hm]))⟩
  ·cases h
end
theorem Qq {P:Program} {N:Nat} {d:Tmp} {ty:TypeId} {ps:String} {af:Array Edge} {gd:Option (Nat×Bool)} {f:FuncId} {args:List Operand} {tys:Array TypeId} {sl:List (Nat×T)} {ob:List (Nat×Ob)} {nx o:Nat} {x0 y:Ob} {ts ts':List T} {eqs:List (Nat×Nat)} {res:List RV} {out:T} {nw:List (Nat×Ob)} {n:Nat}
 (hF:FnW P f x0.loc ts' y res) (ht:yc sl args=some ts) (ho:go ob o=some x0) (hfx:x0.free=true) (hfy:y.free=true) (ha:yK [] o ts=some (ts',eqs)) (he:Eqs eqs) (hi:Cb nx res=some (out,nw,n)) (hw:Is nx nw n=true) (hN:nlt d N=true):
 AWO P N ⟨some d,.call ⟨.value (.func f),args.toArray,tys⟩,ty,ps,af,gd⟩ ⟨sl,ob,nx⟩ ⟨(d,out)::sl,nw++(o,y)::ob,n⟩:=by
 intro cx E a w hR
 obtain⟨t1,t2⟩:=o7 ht
 obtain⟨nob,hnob⟩:∃nob:List (Nat×Ob),nob=[]:=⟨_,rfl⟩
 rw[←hnob] at ha
 have hob:∀l x,go nob l=some x→cy E w l x:=fun l x h=>by subst hnob;cases h
 have hx0:=hR.obs o x0 ho
 obtain⟨b,c0,hr,hbF⟩:∃b c0,E.r o=some (b,c0)∧¬E.F b:=by
  cases x0 with
  |rown ty sz els g=>exact absurd hfx UI
  |abs l y=>exact absurd hfx UI
  |var t cs=>obtain⟨b,c,arr,h1,h2,h3,h4⟩:=hx0;exact⟨b,c,h1,h4⟩
  |row t sz els g m=>
   obtain⟨b,c,arr,h1,h2,h3,h4,h5,h6,h7,h8,h9⟩:=hx0
   have hm:m=true:=hfx
   subst hm
   exact⟨b,c,h1,h8 rfl⟩
 have hnl:∀l x,go nob l=some x→l≠o:=fun l x h=>by subst hnob;cases h
 have hbC:¬jt E nob b:=by
  rintro(h|⟨l,x,c,h1,h2⟩)
  ·exact hbF h
  ·exact hnl l x h1 (hR.ok.inj _ _ _ _ _ h2 hr)
 have hFb:∀b,jt E nob b→b<w.heap.size:=by
  rintro b (h|⟨l,x,c,h1,h2⟩)
  ·exact hR.ok.fb b h
  ·exact(hR.ok.rb l b c h2).1
 have hbs0:=(hR.ok.rb o b c0 hr).1
 have hA:=AP (a:=a) hR.ok hob hr ha he t1 (fun x t hm=>by have:=hR.op x;rwa [Lk.mem t2 x t hm] at this)
 have hX:cy (E0 b c0 (jt E nob)) w 200 x0.loc:=by
  have hl:=Di hR.ok hfx hx0
  have hfl:x0.loc.free=true:=by
   cases x0 with
   |rown ty sz els g=>exact absurd hfx UI
   |abs l y=>exact absurd hfx UI
   |var t cs=>
    simp only[Ob.loc,Ob.free,List.all_map] at hfx ⊢
    refine TX.2 fun c hc=>?_
    have:=TX.1 hfx c hc
    cases c<;>simp_all [C.loc,C.free]
   |row t sz els g m=>exact hfx
  have hnoG:∀E2:Env,(∀k,E.F k→E2.F k)→E2.r 200=some (b,c0)→¬E2.F b→cy E2 w 200 x0.loc:=by
   intro E2 h1 h2 h3
   cases x0 with
   |rown ty sz els g=>exact absurd hfx UI
   |abs l y=>exact absurd hfx UI
   |var t cs=>
    obtain⟨b',c',arr,k1,k2,k3,k4⟩:=hl
    rw[hr] at k1;cases k1
    refine⟨b,c0,arr,h2,k2,?_,h3⟩
    have key:∀(cs:List C) (us:List Value),cs.all C.free=true→CV E w (cs.map C.loc) us→CV E2 w (cs.map C.loc) us:=by
     intro cs
     induction cs with
     |nil=>
      intro us _ h
      cases us with
      |nil=>trivial
      |cons _ _=>exact h.elim
     |cons c cs ih=>
      intro us hf h
      simp only[TF,hV] at hf
      cases us with
      |nil=>exact h.elim
      |cons u us=>
       refine⟨?_,ih us hf.2 h.2⟩
       have h5:=h.1
       cases c with
       |d g y=>exact cj (fun _ _=>rfl) h1 _ _ h5
       |nil=>exact h5
       |fn f=>exact h5
       |any=>trivial
       |_=>simp[C.free] at hf
    exact key cs _ hfx k3
   |row t sz els g m=>
    obtain⟨b',c',arr,k1,k2,k3,k4,k5,k6,k7,k8,k9⟩:=hl
    rw[hr] at k1;cases k1
    have hm:m=true:=hfx
    subst hm
    exact⟨b,c0,arr,h2,k2,k3,k4,k5,k6,cm (fun _ _=>rfl) h1 rfl _ _ k7,fun _=>h3,fun h=>by cases h⟩
  exact hnoG _ (fun k hk=>.inl hk) (by simp[E0]) hbC
 have hc:=hF.calls (jt E nob) w (args.map a.eval).toArray b c0 hFb hbs0 hR.ok.tabs (hR.ok.ntab hr) hX (by simpa using hA)
 have hent:=hF.enters (args.map a.eval).toArray w
 unfold Oper.wp
 have hrun:(execOp a.eval ⟨some d,.call ⟨.value (.func f),args.toArray,tys⟩,ty,ps,af,gd⟩).run P w= .ok (.enter f (args.map a.eval).toArray) w:=by
  simp only[execOp,resolve,Act.eval,Deferred.ofValue,Sem.run_bind,Sem.run_pure,Result.andThen_ok,invoke]
  simpa using hent
 rw[hrun,Oper.upon_enter]
 refine hc.mono ?_
 rintro e w' ⟨v,G,bs,rfl,hpast,hG2,hres,hnd,hY⟩
 have hdom:∀l p,E.r l=some p→l<nx:=hR.dom
 have hbs:=EI hres
 have hnw:=Nw.mem (zG hw)
 have hlab:∀l,nx≤l→l<nx+bs.length→E.r l=none∧rsv l=false:=by
  have himp:=uj (E:=⟨fun o=>bs[o-nx]?,G,G,fun _ _=>False,fun _=>False,fun _=>False⟩) (fun _ h=>h) (fun b _ h=>h) hi hres (fun i p hi=>by simpa using hi)
  intro l h1 h2
  obtain⟨x,hx⟩:=himp.2.2.2 l h1 (by rw[himp.2.1];exact h2)
  have h3:=hnw.2 l x hx
  refine⟨?_,h3.2.2⟩
  cases hq:E.r l with
  |none=>rfl
  |some p=>have:=hdom l p hq;omega
 let E':Env:=⟨fun l=>if nx≤l∧l<nx+bs.length then bs[l-nx]? else E.r l,fun k=>E.F k∨G k,fun k=>E.G k∨G k,E.T,E.Z,E.n⟩
 have hsz:=hpast.size
 have hws:=hR.ok.size
 have hold:∀l p,E.r l=some p→E'.r l=some p:=fun l p h=>by
  show(if nx≤l∧l<nx+bs.length then bs[l-nx]? else E.r l)=some p
  rw[if_neg]
  ·exact h
  ·rintro⟨h1,h2⟩;have:=(hlab l h1 h2).1;rw[this] at h;cases h
 have hnew:∀l b c,E'.r l=some (b,c)→(nx≤l∧l<nx+bs.length∧bs[l-nx]?=some (b,c))∨(E.r l=some (b,c)):=by
  intro l b c h
  have h:(if nx≤l∧l<nx+bs.length then bs[l-nx]? else E.r l)=some (b,c):=h
  split at h
  ·rename_i hh;exact .inl ⟨hh.1,hh.2,h⟩
  ·exact .inr h
 have hheap:∀k,k<w.heap.size→k≠b→w'.heap[k]?=w.heap[k]?:=fun k hk hne=>hpast.block k hk hne
 have hHb:∀g k,E.H g k→k≠b∧k<w.heap.size:=fun g k hk=>⟨fun e=>by subst e;cases g;exact hbF hk;exact hbF (hR.ok.gf _ hk),hR.ok.hb hk⟩
 have hk:iq E w E' w':=⟨hold,fun g k h=>by cases g<;>exact .inl h,fun g k h=>hheap k (hHb g k h).2 (hHb g k h).1,fun l k h=>⟨h,hheap k (hR.ok.sf.tb l k h).1.1 (fun e=>by subst e;exact(hR.ok.sf.tb l k h).2.2.1 o c0 hr)⟩,fun k h=>⟨h,.of_eq (hheap k (hR.ok.sf.zb k h).1.2.1 (fun e=>by subst e;exact(hR.ok.sf.zb k h).2.2.1 o c0 hr))⟩,rfl⟩
 have ok':cQ cx E' w':=by
  refine⟨fun k h=>?_,fun k h=>?_,fun k h=>?_,fun l k c h=>?_,fun l l' k c c' h h'=>?_,by rw[hpast.os];exact hR.ok.os,by rw[hpast.tape];exact hR.ok.tape,by rw[hpast.output];exact hR.ok.output,by omega,fun k h hW=>?_,fun l p hv h=>?_,fun k h=>?_,
   fun k h h'=>h.elim (fun h=>(hR.ok.gc k h h').of_eq (hheap k (hHb false k h).2 (hHb false k h).1)) (fun h=>(hG2 k h).2.2),
   hR.ok.sf.turn hr rfl rfl (fun k h=>h.elim .inl (fun h=>.inr (hG2 k h).1)) (fun l k c h=>by
    rcases hnew l k c h with⟨_,_,h⟩|h
    ·exact .inr (hbs _ (Tn h)).1
    ·exact .inl ⟨l,c,h⟩) hsz hheap⟩
  ·rcases h with h|h
   ·have:=hR.ok.fb k h;omega
   ·exact(hG2 k h).2.1
  ·rcases h with h|h
   ·exact .inl (hR.ok.gf k h)
   ·exact .inr h
  ·rcases h with h|h
   ·exact hR.ok.gn k h
   ·have:=hG2 k h;omega
  ·rcases hnew l k c h with⟨_,_,h⟩|h
   ·have:=hbs _ (Tn h);exact⟨this.2,.inl (by have:=this.1;simp at this;omega)⟩
   ·have:=hR.ok.rb l k c h;exact⟨by omega,this.2⟩
  ·rcases hnew l k c h with⟨h1,h2,h3⟩|h3<;>rcases hnew l' k c' h' with⟨k1,k2,k3⟩|k3
   ·have hi:l-nx<bs.length:=by omega
    have hj:l'-nx<bs.length:=by omega
    rcases US (l-nx) (l'-nx) with hlt|heq|hlt
    ·exfalso
     have:=Uh.1 hnd (l-nx) (l'-nx) (by simpa using hi) (by simpa using hj) hlt
     rw[v0 hi] at h3;rw[v0 hj] at k3
     simp at h3 k3;simp[h3,k3] at this
    ·omega
    ·exfalso
     have:=Uh.1 hnd (l'-nx) (l-nx) (by simpa using hj) (by simpa using hi) hlt
     rw[v0 hi] at h3;rw[v0 hj] at k3
     simp at h3 k3;simp[h3,k3] at this
   ·have h5:=hbs _ (Tn h3);have h6:=hR.ok.rb l' k c' k3;simp at h5;omega
   ·have h5:=hbs _ (Tn k3);have h6:=hR.ok.rb l k c h3;simp at h5;omega
   ·exact hR.ok.inj l l' k c c' h3 k3
  ·have hkb:k≠b:=fun e=>by
    subst e
    rcases(hR.ok.rb o k c0 hr).2 with h'|h'
    ·omega
    ·exact hW h'.1
   rw[hheap k (by omega) hkb];exact hR.ok.block k h hW
  ·rcases hnew l p.1 p.2 h with⟨h1,h2,_⟩|h
   ·rw[nu (hlab l h1 h2).2] at hv;cases hv
   ·exact hR.ok.pin l p hv h
  ·rcases h with h|h
   ·exact hR.ok.ff k h
   ·exact .inr (by have:=hG2 k h;omega)
 have himp:=uj (E:=E') (G:=G) (base:=w.heap.size) (fun b h=>.inr h) (fun b hb hng hF=>by
  rcases hF with h|h
  ·have:=hR.ok.fb b h;omega
  ·exact hng h) hi hres (fun i p hi=>by
   have:i<bs.length:=(Tm.1 hi).1
   show(if nx≤nx+i∧nx+i<nx+bs.length then bs[nx+i-nx]? else E.r (nx+i))=some p
   rw[if_pos (by omega)];simpa using hi)
 refine⟨E',ok',fun l p h=>?_,fun l x hl=>?_,fun k=>?_,hR.dfr,by simpa [Act.put] using hR.size,fun l k h=>Nat.lt_of_lt_of_le (hR.td l k h) hnw.1⟩
 ·rcases hnew l p.1 p.2 h with⟨h1,h2,_⟩|h
  ·obtain⟨x,hx⟩:=himp.2.2.2 l h1 (by rw[himp.2.1];exact h2);exact(hnw.2 l x hx).2.1
  ·have:=hdom l p h;show l<n;omega
 ·rcases xW hl with h|h
  ·exact(himp.2.2.1 l x h).1
  ·by_cases hlo:o=l
   ·subst hlo
    rw[cg] at h;cases h
    refine vH hfy (fun k c h=>?_) (fun g k h=>?_) (fun _ _ _=>rfl) (fun _ _ _=>rfl) (fun k c h hn hh=>?_) hY
    ·simp[E1] at h;rw[←h.1,←h.2];exact hold _ _ hr
    ·cases g with
     |false=>
      rcases h with h|h
      ·rcases h with h|⟨l,x,c,h1,h2⟩
       ·exact .inl h
       ·subst hnob;cases h1
      ·exact .inr h
     |true=>exact .inr h
    ·simp[E1] at h;obtain⟨rfl,rfl⟩:=h
     rcases hh with hh|hh
     ·exact hbF hh
     ·have:=hG2 _ hh;omega
   ·rw[bA _ _ hlo] at h
    exact fg hk (fun k c h'=>hheap k (hR.ok.rb _ _ _ h').1 (fun e=>hlo (by subst e;exact hR.ok.inj _ _ _ _ _ hr h'))) (fun k c h' hn hh=>by
     rcases hh with hh|hh
     ·exact hn hh
     ·have:=hG2 k hh;have:=(hR.ok.rb _ _ _ h').1;omega) (hR.obs l x h)
 ·rw[fO (by rw[hR.size];exact cK hN)]
  by_cases hdk:d=k
  ·subst hdk;rw[dL,if_pos rfl];exact himp.1
  ·rw[cR _ _ hdk,if_neg hdk];exact ie hk (hR.sl k)
theorem cw {P:Program} {N:Nat} {d:Tmp} {ty:TypeId} {ps:String} {af:Array Edge} {gd:Option (Nat×Bool)} {f:FuncId} {args:List Operand} {tys:Array TypeId} {sl:List (Nat×T)} {ob ob':List (Nat×Ob)} {nx o:Nat} {x0 x1 y:Ob} {ts ts':List T} {eqs:List (Nat×Nat)} {res:List RV} {out:T} {nw:List (Nat×Ob)} {n:Nat}
 (hF:FnW P f x1 ts' y res) (ht:yc sl args=some ts:=by exact rfl) (ho:go ob o=some x0:=by exact rfl) (hl:x0.loc=x1:=by exact rfl) (hfx:x0.free=true:=by exact rfl) (hfy:y.free=true:=by exact rfl) (ha:yK [] o ts=some (ts',eqs):=by exact rfl) (he:Eqs eqs:=by repeat (first|exact trivial|refine⟨by first|rfl|exact lm _|simp,?_⟩)) (hi:Cb nx res=some (out,nw,n):=by exact rfl) (hw:Is nx nw n=true:=by exact rfl) (hN:nlt d N=true:=by exact rfl) (hob:apO nw ((o,y)::ob)=some ob':=by exact rfl):
 AWO P N ⟨some d,.call ⟨.value (.func f),args.toArray,tys⟩,ty,ps,af,gd⟩ ⟨sl,ob,nx⟩ ⟨(d,out)::sl,ob',n⟩:=by
 subst hl
 rw[sJ hob]
 exact Qq hF ht ho hfx hfy ha he hi hw hN
theorem eu {N:Nat} {P:Program} {s:St} {rs:List ResultVar} {res res':List RV} {vs:List V} {ls:List Nat} {y y':Ob} (h:mU P s rs vs:=by repeat' (first|exact .nil|apply mU.cons|exact .tmp rfl|exact .cell rfl rfl rfl|exact .cell1 rfl rfl)) (he:uY s.ob vs=some (res',ls):=by exact rfl) (hn:lG ls=true:=by exact rfl) (hr:res'=res:=by first|rfl|simp) (hy:go s.ob 200=some y':=by exact rfl) (hyy:y'=y:=by first|rfl|simp):Fy N P rs res y .ret s:=by
 subst hr;subst hyy;exact⟨s,uF s,⟨vs,ls,h,he,hn⟩,hy⟩
end Go.AM
namespace Go.AM
open Go.RowKit
structure FnN (P:Program) (f:FuncId) (args:List AV) (ty:TypeId) (xs:List D):Prop where
 enters:∀(vs:Array Value) (w:World),(callFunc f vs).run P w= .ok (.enter f vs) w
 calls:∀(F:Nat→Prop) (w:World) (vals:Array Value),(∀b,F b→b<w.heap.size)→TabsIn w→AR w F args vals.toList→
  Calls P f vals w fun e w'=>∃(b:Nat) (arr:Array Value) (G:Nat→Prop),e= .returned (.pointer (some ⟨b,0,none⟩))∧DN w w' (fun _=>False)∧(∀k,G k→w.heap.size≤k∧k<w'.heap.size∧gA w' k)∧w.heap.size≤b∧b<w'.heap.size∧¬G b∧w'.heap[b]?=some (.cells arr ty (0,0))∧DV w' (fun k=>F k∨G k) xs arr.toList
def F5:C→Option D
 | .d _ x=>some x
 | .nil=>some (.l [])
 |_=>none
def vr:List C→Option (List D)
 |[]=>some []
 |c::cs=>match F5 c,vr cs with
  |some x,some xs=>some (x::xs)
  |_,_=>none
theorem MN {cx:Cx} {E:Env} {w:World} (ok:cQ cx E w) {c:C} {x:D} {u:Value} (h:F5 c=some x) (hc:cvC E w c u):rdD w E.F x u:=by
 cases c with
 |d g y=>simp[F5] at h;subst h;exact mY (g':=false) ok hc (by simp)
 |nil=>
  simp[F5] at h;subst h
  have hu:u= .slice none 0 0:=hc
  subst hu
  rw[rdD];exact⟨none,0,rfl,Tt _,.inl rfl⟩
 |_=>simp[F5] at h
theorem CK {cx:Cx} {E:Env} {w:World} (ok:cQ cx E w):∀{cs:List C} {xs:List D} {us:List Value},vr cs=some xs→CV E w cs us→DV w E.F xs us
 |[],xs,[],h,_=>by simp[vr] at h;subst h;trivial
 |[],_,_::_,_,hc=>hc.elim
 |c::cs,xs,[],h,hc=>hc.elim
 |c::cs,xs,u::us,h,hc=>by
  simp only[vr] at h
  split at h
  ·rename_i x xs' h1 h2
   simp at h;subst h
   exact⟨MN ok h1 hc.1,CK ok h2 hc.2⟩
  ·cases h
theorem DJ {w w':World} {F F':Nat→Prop} (hw:∀b,F b→w'.heap[b]?=w.heap[b]?) (hF:∀b,F b→F' b):∀{xs:List D} {us:List Value},DV w F xs us→DV w' F' xs us
 |[],[],_=>trivial
 |x::xs,u::us,h=>⟨cj hw hF x u h.1,DJ hw hF h.2⟩
 |[],_::_,h=>h.elim
 |_::_,[],h=>h.elim
def Jg (N:Nat) (rs:List ResultVar) (ty:TypeId) (xs:List D):Exit→St→Prop
 | .ret,s| .normal,s=>∃s' k o cs,cZ N s s'∧rs=[.tmp k]∧gt s'.sl k= .v (.c (.p o 0))∧go s'.ob o=some (.var ty cs)∧vr cs=some xs∧rsv o=false
 |_,_=>False
instance {N:Nat} {rs:List ResultVar} {ty:TypeId} {xs:List D}:Clo N (Jg N rs ty xs):=⟨fun e s m hw h=>by
 cases e<;>simp only[Jg] at h ⊢<;>first|exact h|(obtain⟨s',k,o,cs,h1,h2⟩:=h;exact⟨s',k,o,cs,an hw h1,h2⟩)⟩
theorem M6 {N:Nat} {s:St} {rs:List ResultVar} {ty:TypeId} {xs xs':List D} {k o:Nat} {cs:List C} (h1:rs=[.tmp k]:=by exact rfl) (h2:gt s.sl k= .v (.c (.p o 0)):=by exact rfl) (h3:go s.ob o=some (.var ty cs):=by exact rfl) (h4:vr cs=some xs':=by exact rfl) (h5:rsv o=false:=by exact rfl) (h6:xs'=xs:=by exact rfl):Jg N rs ty xs .ret s:=by
 subst h6;exact⟨s,k,o,cs,uF s,h1,h2,h3,h4,h5⟩
theorem RL {P:Program} {f:FuncId} {fn:Func} {c:Code} {N:Nat} {args:List AV} {rs:List ResultVar} {ty:TypeId} {xs:List D} {sl0:List (Nat×T)} (hf:P.funcs[f]?=some fn) (hb:fn.body=some c:=by exact rfl) (hnm:(fn.name== "runtime.NumGoroutine")=false:=by kernel_rfl) (hN:fn.ntmps=N) (hrs:fn.results.toList=rs:=by exact rfl)
 (ha:Nat.ble args.length N=true:=by exact rfl) (hs:HX 0 args=some sl0:=by exact rfl) (h:AWC P N c ⟨sl0,[],0⟩ (Jg N rs ty xs)):FnN P f args ty xs:=by
 rw[DW hs] at h
 refine⟨fun vs w=>by simp[callFunc,hf,hb];simpa using hnm,fun F w vals hF hT hA=>?_⟩
 subst hrs
 refine calls_of_wp hf hb ?_
 let E:Env:={r:=fun _=>none,F:=F,G:=fun _=>False}
 obtain⟨h1,h2⟩:=z7 (E:=E) (F:=F) rfl 0 hA
 have hle:args.length≤N:=UM ha
 have hsz:vals.size=args.length:=by simpa using h1
 have hR:Rel N ⟨w,fun _=>False,fun _=>none,F,fun _=>False,⟨hT,fun _ _ h=>h⟩,fun _=>False⟩ E ⟨rT 0 args,[],0⟩ {tmps:=vals++TZ (fn.ntmps-vals.size) undef,defers:=[]} w:=by
  refine⟨⟨hF,fun _ h=>h.elim,fun _ h=>h.elim,(fun _ _ _ h=>by cases h),(fun _ _ _ _ _ h=>by cases h),rfl,rfl,rfl,Tt _,fun _ _ _=>rfl,(fun _ _ _ h=>by cases h),fun _ h=>.inl h,fun b h h'=>absurd (hF b h) (by have:w.heap.size≤b:=h';omega),⟨fun _ _ h=>h.elim,fun _ _ _ h=>h.elim,fun _ h=>h.elim,fun _ h=>h.elim,fun _ h=>h.elim⟩⟩,(fun _ _ h=>by cases h),(fun _ _ h=>by cases h),fun k=>?_,rfl,by simp;omega,fun _ _ h=>h.elim⟩
  by_cases hk:k<args.length
  ·obtain⟨u,h3,h4⟩:=(h2 k).1 ⟨Ud _,by omega⟩
   have:(vals++TZ (fn.ntmps-vals.size) undef).getD k undef=u:=by
    have h5:vals[k]?=some u:=by simpa using h3
    have h6:(vals++TZ (fn.ntmps-vals.size) undef)[k]?=some u:=by rw[UR (by omega)];exact h5
    simp[h6]
   rw[this];exact h4
  ·have:=(h2 k).2 (by omega)
   show cvT E w (gt (rT 0 args) k) _
   rw[this];trivial
 refine wp_mono (h _ E _ w hR) ?_
 rintro e a' w' ⟨E',s',hR',hq⟩
 have fin:(∃s'' k o cs,cZ N s' s''∧fn.results.toList=[.tmp k]∧gt s''.sl k= .v (.c (.p o 0))∧go s''.ob o=some (.var ty cs)∧vr cs=some xs∧rsv o=false)→
  a'.defers=[]∧∃v,(results fn a'.tmps).run P w'= .ok v w'∧∃(b:Nat) (arr:Array Value) (G:Nat→Prop),Ending.returned v= .returned (.pointer (some ⟨b,0,none⟩))∧DN w w' (fun _=>False)∧(∀k,G k→w.heap.size≤k∧k<w'.heap.size∧gA w' k)∧w.heap.size≤b∧b<w'.heap.size∧¬G b∧w'.heap[b]?=some (.cells arr ty (0,0))∧DV w' (fun k=>F k∨G k) xs arr.toList:=by
  rintro⟨s'',k,o,cs,hw,hr1,hg,ho,hd,hv⟩
  obtain⟨E'',hR''⟩:=hw _ _ _ _ hR'
  have ok:=hR''.ok
  have hsl:=hR''.sl k
  rw[hg] at hsl
  obtain⟨b,cc,hrb,hu⟩:=hsl
  obtain⟨b',c',arr,k1,k2,k3,k4⟩:=hR''.obs o _ ho
  rw[hrb] at k1;cases k1
  have hfr:fn.results= #[.tmp k]:=by apply Array.ext';simpa using hr1
  refine⟨hR''.dfr,.pointer (some ⟨b,0,none⟩),?_,b,arr,fun k=>E''.F k∧w.heap.size≤k,rfl,⟨ok.os,ok.tape,ok.output,ok.size,ok.block⟩,fun k hk=>⟨hk.2,ok.fb k hk.1,ok.gc k hk.1 hk.2⟩,?_,(ok.rb o b cc hrb).1,fun h=>k4 h.1,k2,?_⟩
  ·have hres:results fn a'.tmps=(fn.results.mapM (ke a'.tmps))>>= fun vs=>pure (if h:vs.size=1 then vs[0] else .tuple vs):=rfl
   rw[hres,hfr]
   simp[ke,hu]
  ·rcases(ok.rb o b cc hrb).2 with h|h
   ·exact h
   ·exact h.1.elim
  ·exact DJ (fun _ _=>rfl) (fun k hk=>(ok.ff k hk).elim .inl (fun h=>.inr ⟨hk,h⟩)) (CK ok hd k3)
 cases e with
 |normal=>exact fin hq
 |ret=>exact fin hq
 |_=>exact hq.elim
theorem Qi {P:Program} {d:Tmp} {ty0:TypeId} {ps:String} {af:Array Edge} {gd:Option (Nat×Bool)} {f:FuncId} {args:List Operand} {tys:Array TypeId} {ts:List T} {avs:List AV} {eqs:List (Nat×Nat)} {ty:TypeId} {xs:List D} {nx:Nat}
 (hl:ts.length=args.length) (ha:Dz [] ts=some (avs,eqs)) (hF:FnN P f avs ty xs) (he:Eqs eqs):
 AWN P ⟨some d,.call ⟨.value (.func f),args.toArray,tys⟩,ty0,ps,af,gd⟩ (args.zip ts) [] (.v (.c (.p nx 0))) [(nx,.var ty (xs.map (ldC false)))]:=by
 intro cx E a w ok hn hb hfr
 have hA:=HL ok (nob:=[]) (fun l x h=>by cases h) ha he hl hn
 have hcF:∀b,jt E [] b→E.F b:=by
  rintro b (h|⟨l,x,c,h1,h2⟩)
  ·exact h
  ·cases h1
 have hc:=hF.calls (jt E []) w (args.map a.eval).toArray (fun b h=>ok.fb b (hcF b h)) ok.tabs (by simpa using hA)
 have hent:=hF.enters (args.map a.eval).toArray w
 unfold Oper.wp
 have hrun:(execOp a.eval ⟨some d,.call ⟨.value (.func f),args.toArray,tys⟩,ty0,ps,af,gd⟩).run P w= .ok (.enter f (args.map a.eval).toArray) w:=by
  simp only[execOp,resolve,Act.eval,Deferred.ofValue,Sem.run_bind,Sem.run_pure,Result.andThen_ok,invoke]
  simpa using hent
 rw[hrun,Oper.upon_enter]
 refine hc.mono ?_
 rintro e w' ⟨b,arr,G,rfl,hp,hG,hb1,hb2,hbG,hh,hD⟩
 obtain⟨hl0,hrv⟩:=hfr nx (.var ty (xs.map (ldC false))) (UJ.2 rfl)
 obtain⟨ok',ext⟩:=CN (nx:=nx) (bs:=[(b,0)]) ok hp hG (by simp;exact⟨hb1,hb2⟩) (by simp) (fun l h1 h2=>by
  have:l=nx:=by simp at h2;omega
  subst this;exact⟨hl0,hrv⟩)
 have hr:(E.after nx [(b,0)] G).r nx=some (b,0):=by simp[Env.after]
 refine⟨.pointer (some ⟨b,0,none⟩),E.after nx [(b,0)] G,rfl,ok',ext,⟨b,0,hr,rfl⟩,fun l ob hm=>?_,fun l x hx=>?_⟩
 ·simp at hm;obtain⟨rfl,rfl⟩:=hm
  refine⟨b,0,arr,hr,hh,?_,?_⟩
  ·exact Mf (E:=E.after l [(b,0)] G) (F:=fun k=>E.F k∨G k) rfl (DJ (fun _ _=>rfl) (fun k hk=>hk.elim (fun h=>.inl (hcF k h)) .inr) hD)
  ·rintro(h|h)
   ·have:=ok.fb b h;omega
   ·exact hbG h
 ·simp only[Env.after] at hx
  split at hx
  ·rename_i hh2
   have:l=nx:=by have:=hh2.2;simp at this;omega
   subst this;exact .inr ⟨.var ty (xs.map (ldC false)),UJ.2 rfl⟩
  ·exact .inl hx
theorem cn {P:Program} {N:Nat} {d:Tmp} {ty0:TypeId} {ps:String} {af:Array Edge} {gd:Option (Nat×Bool)} {f:FuncId} {args:List Operand} {tys:Array TypeId} {sl:List (Nat×T)} {ob:List (Nat×Ob)} {nx nx':Nat} {ts:List T} {avs:List AV} {eqs:List (Nat×Nat)} {ty:TypeId} {xs:List D} {cs:List C}
 (hF:FnN P f avs ty xs) (ht:yc sl args=some ts) (ha:Dz [] ts=some (avs,eqs)) (he:Eqs eqs) (hc:ldO false xs=some cs) (hN:nlt d N=true) (hq:nxt nx=some nx'):
 NS P N ⟨some d,.call ⟨.value (.func f),args.toArray,tys⟩,ty0,ps,af,gd⟩ ⟨sl,ob,nx⟩ ⟨(d,.v (.c (.p nx 0)))::sl,(nx,.var ty cs)::ob,nx'⟩ ⟨d,args.zip ts,[],.v (.c (.p nx 0)),[(nx,.var ty cs)]⟩:=by
 obtain⟨h1,h2⟩:=o7 ht
 rw[Ej hc]
 exact db (st:=⟨sl,ob,nx⟩) (Qi h1 ha hF he) rfl hN h2 trivial (lH hq)
end Go.AM
namespace Go.AM
open Go.RowKit
def EZ (R:Nat→Prop):Env:={r:=fun _=>none,F:=fun _=>False,G:=fun _=>False,Z:=R}
structure Q2 (w w':World) (R:Nat→Prop):Prop where
 os:w'.os=w.os
 tape:w'.tape=w.tape
 output:w'.output=w.output
 size:w.heap.size≤w'.heap.size
 block:∀b,b<w.heap.size→¬R b→w'.heap[b]?=w.heap[b]?
 sim:∀b,R b→nW w w' b∧gA w' b
structure FnM (P:Program) (f:FuncId) (args:List T) (n:Int):Prop where
 enters:∀(vs:Array Value) (w:World),(callFunc f vs).run P w= .ok (.enter f vs) w
 calls:∀(R:Nat→Prop) (w:World) (vals:Array Value),(∀b,R b→b<w.heap.size∧gA w b)→TabsIn w→(∀k∈rC,¬R k)→TV (EZ R) w args vals.toList→
  Calls P f vals w fun e w'=>e= .returned (.int .i64 n)∧Q2 w w' R
section
variable {P:Program} {N:Nat} {d:Tmp} {x y:Operand} {ty:TypeId} {ps:String} {af:Array Edge} {gd:Option (Nat×Bool)} {sl:List (Nat×T)} {ob:List (Nat×Ob)} {nx:Nat} {α:Type} {enc:α→List D}
theorem Qm {t:TypeId} {xs:List (List D)} {e sz by_:Nat} [ht:TySl P t e sz by_]:AWN P ⟨some d,.call ⟨.builtin .len,#[x],#[t]⟩,ty,ps,af,gd⟩ [(x,.v (.c (.z (.l xs))))] [] (tI xs.length) []:=
 b7 fun E ac w hn _=>by
  have h:=hn x _ (.head _)
  simp only[cvT,cvV,cvC,rsD] at h
  obtain⟨A,c,hu,_⟩:=h
  exact⟨_,by simp[execOp,resolve,invoke,builtin,hu,Builtin.len_,underlying,ht.u,goInt];rfl,by simp[cvT,cvV,cvC,rdD]⟩
theorem Lr {t:TypeId} {f off ft:Nat} {e:List D} {j:Nat} [h:TyF P t f off ft]:AWN P ⟨some d,.fieldAddr t x f,ty,ps,af,gd⟩ [(x,.v (.c (.zq e j)))] [] (.v (.c (.zq e (j+off)))) []:=
 b7 fun E a w hn _=>by
  obtain⟨b,k,hu,hb,hl⟩:=hn x _ (.head _)
  exact⟨_,by simp[execOp,hu,o3];rfl,b,k,by simp[Nat.add_assoc],hb,hl⟩
theorem NN {t:TypeId} {e:List D} {j:Nat} {xd:D} [ht:TySc P t] (hc:e[j]?=some xd):AWN P ⟨some d,.load t x,ty,ps,af,gd⟩ [(x,.v (.c (.zq e j)))] [] (.v (.c (.z xd))) []:=
 b7 fun E a w hn _=>by
  obtain⟨b,k,hu,hb,hl⟩:=hn x _ (.head _)
  obtain⟨u,h1,h2⟩:=IE hl hc
  exact⟨u,by simp[execOp,hu,jY h1],h2⟩
theorem G7 {w:World} {F:Nat→Prop}:∀{e:List D} {b k:Nat},rsL w F e b k→∃us:List Value,us.length=e.length∧(∀(j:Nat) (u:Value),us[j]?=some u→w.cell? ⟨b,k+j,none⟩=some u)∧∀(j:Nat) (xd:D),e[j]?=some xd→∃u,us[j]?=some u∧rsD w F xd u
 |[],b,k,_=>⟨[],rfl,by simp,by simp⟩
 |x::e,b,k,h=>by
  rw[rsL] at h
  obtain⟨⟨u,hc,hu⟩,h⟩:=h
  obtain⟨us,h1,h2,h3⟩:=G7 h
  refine⟨u::us,by simp[h1],fun j v hj=>?_,fun j xd hj=>?_⟩
  ·cases j with
   |zero=>simp at hj;subst hj;simpa using hc
   |succ j=>have:=h2 j v (by simpa using hj);rwa [show k+1+j=k+(j+1) from by omega] at this
  ·cases j with
   |zero=>simp at hj;subst hj;exact⟨u,rfl,hu⟩
   |succ j=>obtain⟨v,h4,h5⟩:=h3 j xd (by simpa using hj);exact⟨v,by simpa using h4,h5⟩
theorem Fw {E:Env} {w:World}:∀{e:List D} {us:List Value},us.length=e.length→(∀(j:Nat) (xd:D),e[j]?=some xd→∃u,us[j]?=some u∧rsD w E.Z xd u)→CV E w (e.map C.z) us
 |[],[],_,_=>trivial
 |x::e,u::us,hl,h=>by
  obtain⟨v,h1,h2⟩:=h 0 x rfl
  simp at h1;subst h1
  exact⟨h2,Fw (by simpa using hl) fun j xd hj=>by obtain⟨v,h3,h4⟩:=h (j+1) xd (by simpa using hj);exact⟨v,by simpa using h3,h4⟩⟩
 |[],_::_,hl,_=>by simp at hl
 |_::_,[],hl,_=>by simp at hl
theorem Ba {w:World} {F:Nat→Prop}:∀{e:List D} {b k:Nat} (_:rsL w F e b k) (j n:Nat),rsL w F ((e.drop j).take n) b (k+j)
 |[],b,k,_,j,n=>by simp[rsL]
 |x::e,b,k,h,0,0=>by simp[rsL]
 |x::e,b,k,h,0,n+1=>by
  rw[rsL] at h
  have:=Ba h.2 0 n
  simp only[List.drop_zero,TI,TO] at this ⊢
  rw[rsL];exact⟨h.1,this⟩
 |x::e,b,k,h,j+1,n=>by
  rw[rsL] at h
  have:=Ba h.2 j n
  simp only[List.drop_succ_cons]
  rwa [show k+1+j=k+(j+1) from by omega] at this
def zO:List D→Option (List C)
 |[]=>some []
 |x::xs=>match zO xs with|some r=>some (.z x::r)|none=>none
theorem Rs:∀{xs:List D} {cs:List C},zO xs=some cs→cs=xs.map C.z
 |[],cs,h=>by simp[zO] at h;subst h;rfl
 |x::xs,cs,h=>by
  simp only[zO] at h
  split at h
  ·rename_i r h1;simp at h;subst h;rw[Rs h1];rfl
  ·cases h
def zPO (j n:Nat) (e:List D):Option (List C):=match wU j n e with|some r=>zO r|none=>none
theorem Ey {t:TypeId} {n:Nat} {e:List D} {j:Nat} {cs:List C} [ht:TyAg P t n] (hj:zPO j n e=some cs):
 AWN P ⟨some d,.load t x,ty,ps,af,gd⟩ [(x,.v (.c (.zq e j)))] [] (.v (.agg cs)) []:=
 b7 fun E a w hn _=>by
  simp only[zPO] at hj
  split at hj
  ·rename_i r h1
   obtain⟨rfl,hle⟩:=wV h1
   rw[Rs hj]
   obtain⟨b,k,hu,hb,hl⟩:=hn x _ (.head _)
   obtain⟨us,k1,k2,k3⟩:=G7 (Ba hl j n)
   have hlen:us.length=n:=by rw[k1];simp;omega
   exact⟨.agg us.toArray,by simp[execOp,hu,om hlen k2],us.toArray,rfl,by simpa using Fw k1 k3⟩
  ·cases hj
theorem lz {t:TypeId} {xs:List α} {e sz by_:Nat} [TySl P t e sz by_] (hx:opT sl x= .v (.c (.z (.l (xs.map enc))))) (hN:nlt d N=true):
 NS0 P N ⟨some d,.call ⟨.builtin .len,#[x],#[t]⟩,ty,ps,af,gd⟩ sl ob nx d (tI xs.length) ⟨d,[(x,.v (.c (.z (.l (xs.map enc)))))],[],tI xs.length,[]⟩:=by
 have:=db (st:=⟨sl,ob,nx⟩) (Qm (P:=P) (d:=d) (ty:=ty) (ps:=ps) (af:=af) (gd:=gd) (t:=t) (xs:=xs.map enc) (x:=x)) rfl hN ⟨hx,trivial⟩ trivial rfl
 rwa [Us] at this
theorem fz {t:TypeId} {f off ft:Nat} {e:List D} {j j':Nat} [TyF P t f off ft] (hx:opT sl x= .v (.c (.zq e j))) (hN:nlt d N=true) (hk:j+off=j'):NS0 P N ⟨some d,.fieldAddr t x f,ty,ps,af,gd⟩ sl ob nx d (.v (.c (.zq e j'))) ⟨d,[(x,.v (.c (.zq e j)))],[],.v (.c (.zq e j')),[]⟩:=by
 subst hk;exact db (st:=⟨sl,ob,nx⟩) Lr rfl hN ⟨hx,trivial⟩ trivial rfl
theorem oz {t:TypeId} {e:List D} {j:Nat} {xd:D} [TySc P t] (hx:opT sl x= .v (.c (.zq e j))) (hN:nlt d N=true) (hc:e[j]?=some xd):
 NS0 P N ⟨some d,.load t x,ty,ps,af,gd⟩ sl ob nx d (.v (.c (.z xd))) ⟨d,[(x,.v (.c (.zq e j)))],[],.v (.c (.z xd)),[]⟩:=db (st:=⟨sl,ob,nx⟩) (NN hc) rfl hN ⟨hx,trivial⟩ trivial rfl
theorem oza {t:TypeId} {n:Nat} {e:List D} {j:Nat} {cs:List C} [TyAg P t n] (hx:opT sl x= .v (.c (.zq e j))) (hN:nlt d N=true) (hc:zPO j n e=some cs):
 NS0 P N ⟨some d,.load t x,ty,ps,af,gd⟩ sl ob nx d (.v (.agg cs)) ⟨d,[(x,.v (.c (.zq e j)))],[],.v (.agg cs),[]⟩:=db (st:=⟨sl,ob,nx⟩) (Ey hc) rfl hN ⟨hx,trivial⟩ trivial rfl
def u7:D→C→Bool
 | .i k _,.d _ (.i k' _)=>k==k'
 | .b _,.d _ (.b _)=>true
 | .str _,.d _ (.str _)=>true
 |_,_=>false
theorem Om {cx:Cx} {E:Env} {st:St} {a:Act} {w w':World} (hR:Rel N cx E st a w) (hp:Q2 w w' E.Z):Rel N cx E st a w':=by
 have hz:∀b,E.Z b→¬E.F b:=fun b h=>(hR.ok.sf.zb b h).2.1
 have hHn:∀g b,E.H g b→¬E.Z b:=fun g b h hb=>by cases g;exact hz b hb h;exact hz b hb (hR.ok.gf b h)
 have hrn:∀o b c,E.r o=some (b,c)→¬E.Z b:=fun o b c h hb=>(hR.ok.sf.zb b hb).2.2.1 o c h
 have htn:∀l b,E.T l b→¬E.Z b:=fun l b h hb=>by have h1:=(hR.ok.sf.tb l b h).1.2;have h2:=(hR.ok.sf.zb b hb).1.1;omega
 have hk:iq E w E w':=⟨fun _ _ h=>h,fun _ _ h=>h,fun g b h=>hp.block b (hR.ok.hb h) (hHn g b h),fun l b h=>⟨h,hp.block b (hR.ok.sf.tb l b h).1.1 (htn l b h)⟩,fun b h=>⟨h,(hp.sim b h).1⟩,rfl⟩
 have hsz:=hp.size
 refine⟨⟨fun b h=>by have:=hR.ok.fb b h;omega,hR.ok.gf,hR.ok.gn,fun o b c h=>⟨by have:=(hR.ok.rb o b c h).1;omega,(hR.ok.rb o b c h).2⟩,hR.ok.inj,hp.os.trans hR.ok.os,hp.tape.trans hR.ok.tape,hp.output.trans hR.ok.output,by have:=hR.ok.size;omega,fun b h hW=>?_,hR.ok.pin,hR.ok.ff,fun b h h'=>(hR.ok.gc b h h').of_eq (hp.block b (hR.ok.fb b h) (hHn false b h)),?_⟩,hR.dom,fun o x h=>?_,fun k=>ie hk (hR.sl k),hR.dfr,hR.size,hR.td⟩
 ·rw[hp.block b (by have:=hR.ok.size;omega) (fun hz=>hW (hR.ok.sf.zb b hz).1.2.2)];exact hR.ok.block b h hW
 ·refine⟨fun l b h=>?_,hR.ok.sf.tt,fun b h=>?_,fun b h=>?_,hR.ok.sf.ze⟩
  ·obtain⟨h1,h2,h3,h4⟩:=hR.ok.sf.tb l b h
   exact⟨⟨by omega,h1.2⟩,h2,h3,h4.of_eq (hp.block b h1.1 (htn l b h))⟩
  ·obtain⟨h1,h2,h3,h4⟩:=hR.ok.sf.zc b h
   refine⟨⟨h1.1,by omega,h1.2.2⟩,h2,h3,?_⟩
   by_cases hb:E.Z b
   ·exact(hp.sim b hb).2
   ·exact h4.of_eq (hp.block b h1.2.1 hb)
  ·refine(hR.ok.sf.zs b h).trans ?_
   by_cases hb:E.Z b
   ·exact(hp.sim b hb).1
   ·exact .of_eq (hp.block b (hR.ok.sf.zc b h).1.2.1 hb)
 ·exact fg hk (fun b c h'=>hp.block b (hR.ok.rb o b c h').1 (hrn o b c h')) (fun _ _ _ h=>h) (hR.obs o x h)
theorem xQ {w:World} {b:Nat} {arr:Array Value} {ty':TypeId} {fz:Nat×Nat} {k:Nat} (h:w.heap[b]?=some (.cells arr ty' fz)):w.cell? ⟨b,k,none⟩=arr[k]?:=by
 simp[World.cell?,h]
theorem Fj {P:Program} {t:TypeId} {b k:Nat} {vt:TypeId} {arr:Array Value} {u:Value} {w:World} {fz:Nat×Nat} [ht:TyN P t 1] (hu:u.cells= #[u]) (h1:u.oneCell'=true) (hh:w.heap[b]?=some (.cells arr vt fz)) (hf:fz=(0,0)∨arr.size≤fz.1) (hk:k<arr.size):
 (Instr.storeAt t (.pointer (some ⟨b,k,none⟩)) u).run P w= .ok () (w.setRow b (arr.setIfInBounds k u)):=by
 obtain⟨i,hi,hn⟩:=ht.n
 have hadd:(⟨b,k,none⟩:Addr).add 0=⟨b,k,none⟩:=by unfold Addr.add;split<;>simp_all
 have hcell:w.cell? ⟨b,k,none⟩=some arr[k]:=by simp[World.cell?,hh,hk]
 have hfro:w.frozen? ⟨b,k,none⟩=false:=by
  rcases hf with rfl|hf
  ·simp[World.frozen?,hh]
  ·simp[World.frozen?,hh];intro;omega
 have hst:(store ((⟨b,k,none⟩:Addr).add 0) u).run P w= .ok () (w.setRow b (arr.setIfInBounds k u)):=by
  rw[hadd,run_store P w _ u _ h1,hcell]
  simp[hfro,setCell_eq_setRow w b k arr vt fz u hh]
 simp[Instr.storeAt,Instr.sureAddr,storeVar,ez hi,hn,hu,storeCells,hst]
theorem stz {t:TypeId} {e:List D} {j:Nat} {xd:D} {c:C} [ht:TyN P t 1] (hx:opT sl x= .v (.c (.zq e j))) (hy:opT sl y= .v (.c c)) (hc:e[j]?=some xd) (hl:u7 xd c=true):AWO P N ⟨none,.store t x y,ty,ps,af,gd⟩ ⟨sl,ob,nx⟩ ⟨sl,ob,nx⟩:=by
 intro cx E a w hR
 have h1:=hR.op x;rw[hx] at h1
 have h2:=hR.op y;rw[hy] at h2
 obtain⟨b,k,hu,hb,hrs⟩:=h1
 obtain⟨u,hcell,hud⟩:=IE hrs hc
 have hsim:IO u (a.eval y)∧(a.eval y).cells= #[a.eval y]∧(a.eval y).oneCell'=true:=by
  cases xd with
  |i kd n=>
   cases c with
   |d g z=>
    cases z with
    |i kd' n'=>
     simp[u7] at hl;subst hl
     have h2:a.eval y= .int kd n':=by simpa [cvT,cvV,cvC,rdD] using h2
     rw[rsD] at hud
     obtain⟨m,rfl⟩:=hud
     rw[h2];exact⟨.inr (.inl ⟨_,_,_,rfl,rfl⟩),rfl,rfl⟩
    |_=>simp[u7] at hl
   |_=>simp[u7] at hl
  |b n=>
   cases c with
   |d g z=>
    cases z with
    |b n'=>
     have h2:a.eval y= .bool n':=by simpa [cvT,cvV,cvC,rdD] using h2
     rw[rsD] at hud
     obtain⟨m,rfl⟩:=hud
     rw[h2];exact⟨.inr (.inr (.inl ⟨_,_,rfl,rfl⟩)),rfl,rfl⟩
    |_=>simp[u7] at hl
   |_=>simp[u7] at hl
  |str n=>
   cases c with
   |d g z=>
    cases z with
    |str n'=>
     have h2:a.eval y= .string n':=by simpa [cvT,cvV,cvC,rdD] using h2
     rw[rsD] at hud
     obtain⟨m,rfl⟩:=hud
     rw[h2];exact⟨.inr (.inr (.inr ⟨_,_,rfl,rfl⟩)),rfl,rfl⟩
    |_=>simp[u7] at hl
   |_=>simp[u7] at hl
  |l xs=>cases c<;>simp[u7] at hl
  |k A n c'=>cases c<;>simp[u7] at hl
 obtain⟨hs1,hs2,hs3⟩:=hsim
 obtain⟨arr,vt,fz,hh,hfz⟩:=(hR.ok.sf.zb b hb).2.2.2
 have hlt:k+j<arr.size:=by
  rw[xQ hh] at hcell
  rcases T9 (k+j) arr.size with h|h
  ·exact h
  ·rw[Ub h] at hcell;cases hcell
 have hrun:=Fj (P:=P) (t:=t) (b:=b) (k:=k+j) (u:=a.eval y) (w:=w) hs2 hs3 hh hfz hlt
 unfold Oper.wp
 simp only[execOp,hu,Sem.run_bind,hrun,Result.andThen_ok,Sem.run_pure,Oper.upon_skip,Act.put]
 refine⟨E,Om hR ⟨rfl,rfl,rfl,by simp,fun k' _ hk'=>di _ _ _ _ (fun e=>hk' (e▸hb)),fun b' hb'=>?_⟩⟩
 by_cases hbb:b'=b
 ·subst hbb
  have hsr:(w.setRow b' (arr.setIfInBounds (k+j) (a.eval y))).heap[b']?=some (.cells (arr.setIfInBounds (k+j) (a.eval y)) vt fz):=setRow_heap w b' arr _ vt fz hh
  refine⟨fun i v hv=>?_,_,_,_,hsr,by simpa using hfz⟩
  rw[xQ hh] at hv hcell
  rw[xQ hsr]
  by_cases hi:i=k+j
  ·subst hi
   rw[hcell] at hv;cases hv
   exact⟨a.eval y,by simp[hlt],hs1⟩
  ·refine⟨v,?_,.inl rfl⟩
   rw[Array.getElem?_setIfInBounds_ne (fun e=>hi e.symm)]
   exact hv
 ·exact⟨.of_eq (di _ _ _ _ hbb),(hR.ok.sf.zb b' hb').2.2.2.of_eq (di _ _ _ _ hbb)⟩
def C.hasR (l:Nat):C→Bool
 | .r k _=>d0 k l
 |_=>false
def Gm (l:Nat):List C→Bool
 |[]=>false
 |c::cs=>c.hasR l||Gm l cs
def V.hasR (l:Nat):V→Bool
 | .c x=>x.hasR l
 | .agg xs=>Gm l xs
def Ed (l:Nat):List V→Bool
 |[]=>false
 |v::vs=>v.hasR l||Ed l vs
def T.hasR (l:Nat):T→Bool
 | .v x=>x.hasR l
 | .tup xs=>Ed l xs
 | .any=>false
def yE (l:Nat):List (Nat×T)→Option (List (Nat×T))
 |[]=>some []
 |(k,t)::r=>match yE l r with
  |some r'=>match t.hasR l with
   |true=>some ((k,.any)::r')
   |false=>some ((k,t)::r')
  |none=>none
theorem F6 {l:Nat}:∀{sl sl':List (Nat×T)},yE l sl=some sl'→∀k,gt sl' k= .any∨(gt sl' k=gt sl k∧(gt sl k).hasR l=false)
 |[],sl',h,k=>by simp[yE] at h;subst h;exact .inl rfl
 |(j,t)::r,sl',h,k=>by
  simp only[yE] at h
  split at h
  ·rename_i r' h1
   have ih:=F6 h1 k
   split at h
   ·simp at h;subst h
    by_cases hj:j=k
    ·subst hj;left;rw[dL]
    ·rw[cR _ _ hj,cR _ _ hj];exact ih
   ·rename_i ht
    simp at h;subst h
    by_cases hj:j=k
    ·subst hj;right;rw[dL,dL];exact⟨rfl,ht⟩
    ·rw[cR _ _ hj,cR _ _ hj];exact ih
  ·cases h
structure KeepsR (l:Nat) (E:Env) (w:World) (E':Env) (w':World):Prop where
 r:∀o x,E.r o=some x→E'.r o=some x
 H:∀g b,E.H g b→E'.H g b
 heap:∀g b,E.H g b→w'.heap[b]?=w.heap[b]?
 T:∀k b,k≠l→E.T k b→E'.T k b∧w'.heap[b]?=w.heap[b]?
 Z:∀b,E.Z b→E'.Z b∧nW w w' b
 n:E'.n=E.n
end
end Go.AM
namespace Go.AM
open Go.RowKit
def uK (ns:List Int):ByteArray:=ns.foldl (fun r n=>r.push (UInt8.ofNat n.toNat)) ByteArray.empty
section
variable {P:Program} {N:Nat} {d:Tmp} {x y:Operand} {ty:TypeId} {ps:String} {af:Array Edge} {gd:Option (Nat×Bool)} {sl:List (Nat×T)} {ob:List (Nat×Ob)} {nx:Nat}
theorem Kr {w:World} {F:Nat→Prop} {b:Nat}:∀{xs:List Int} {k:Nat},rdLL w F (xs.map eU8) b k→∀(j:Nat) (u:Value),(xs.map (Value.int .u8))[j]?=some u→w.cell? ⟨b,k+j,none⟩=some u
 |[],k,_,j,u,h=>by simp at h
 |n::xs,k,h,j,u,hj=>by
  rw[Uu,rdLL] at h
  obtain⟨h1,h2⟩:=h
  simp only[eU8,rdL,rdD] at h1
  obtain⟨⟨v,hc,rfl⟩,_⟩:=h1
  cases j with
  |zero=>simp at hj;subst hj;simpa using hc
  |succ j=>
   have:=Kr h2 j u (by simpa using hj)
   rwa [show k+(eU8 n).length+j=k+(j+1) from by simp[eU8];omega] at this
theorem QD {w:World} {F:Nat→Prop} {A:Option Addr} {xs:List Int} {c:Nat} (h:xs=[]∨∃b off,A=some ⟨b,off,none⟩∧rdLL w F (xs.map eU8) b off):(Conv.bytesToString (.slice A xs.length c)).run P w= .ok (.string (uK xs)) w:=by
 cases A with
 |none=>
  rcases h with rfl|⟨b,off,h,_⟩
  ·rfl
  ·cases h
 |some a=>
  refine run_bytesToString w a xs.length c xs ?_
  rcases h with rfl|⟨b,off,h,hr⟩
  ·rfl
  ·cases h
   have:=it (P:=P) (b:=b) (k:=off) (w:=w) (xs.map (Value.int .u8)) 0 #[] (fun j u hj=>by rw[Tv];exact Kr hr j u hj)
   simpa [loadCells] using this
theorem n_bts {t t' e:TypeId} {sz by_:Nat} {g:Bool} {xs:List Int} [hs:TySl P t e sz by_] [he:TyU P e (.int .u8)] [hd:TyU P t' .string]:
 AWN P ⟨some d,.convert t t' x,ty,ps,af,gd⟩ [(x,.v (.c (.d g (.l (xs.map eU8)))))] [] (tS (uK xs)) []:=
 b7 fun E ac w hn _=>by
  have h:=hn x _ (.head _)
  simp only[cvT,cvV,cvC,rdD] at h
  obtain⟨A,c,hu,_,h⟩:=h
  rw[Us] at hu
  refine⟨.string (uK xs),?_,by simp[cvT,cvV,cvC,rdD]⟩
  have:=QD (P:=P) (w:=w) (F:=E.H g) (A:=A) (xs:=xs) (c:=c) (by
   rcases h with h|⟨b,off,h1,_,h2⟩
   ·left;simpa using h
   ·right;exact⟨b,off,h1,h2⟩)
  simp only[execOp,hu,Sem.run_bind,run_convert_bytes_string w t t' e A xs.length c hs.u he.h hd.h,this,Result.andThen_ok,Sem.run_pure]
theorem bt1 {t t' e:TypeId} {sz by_:Nat} {g:Bool} {xs:List Int} [TySl P t e sz by_] [TyU P e (.int .u8)] [TyU P t' .string] (hx:opT sl x= .v (.c (.d g (.l (xs.map eU8))))) (hN:nlt d N=true):
 NS0 P N ⟨some d,.convert t t' x,ty,ps,af,gd⟩ sl ob nx d (tS (uK xs)) ⟨d,[(x,.v (.c (.d g (.l (xs.map eU8)))))],[],tS (uK xs),[]⟩:=db (st:=⟨sl,ob,nx⟩) n_bts rfl hN ⟨hx,trivial⟩ trivial rfl
end
end Go.AM
namespace Go.AM
open Go.RowKit
structure KR (up:List (Nat×Ob)) (E:Env) (w:World) (E':Env) (w':World):Prop where
 r:∀o x,E.r o=some x→E'.r o=some x
 F:∀b,E.F b→E'.F b
 G:∀b,E.G b→E'.G b
 F':∀b,E'.F b→E.F b∨w.heap.size≤b
 heap:∀b,b<w.heap.size→(∀l ob c,(l,ob)∈up→E.r l≠some (b,c))→w'.heap[b]?=w.heap[b]?
 own:∀l ob b c,(l,ob)∈up→E.r l=some (b,c)→¬E.F b
 T:E'.T=E.T
 Z:E'.Z=E.Z
 n:E'.n=E.n
theorem KR.of_ext {E E':Env} {w w':World} (x:Ext E w E' w'):KR [] E w E' w':=⟨x.r,x.F,x.G,x.F',fun b h _=>x.heap b h,fun _ _ _ _ h=>(by cases h),x.T,x.Z,x.n⟩
theorem iq.of_extW {cx:Cx} {E E':Env} {w w':World} {up:List (Nat×Ob)} (ok:cQ cx E w) (x:KR up E w E' w'):iq E w E' w':=by
 have hF:∀b,E.F b→w'.heap[b]?=w.heap[b]?:=fun b h=>x.heap b (ok.fb b h) (fun l ob c hm hr=>x.own l ob b c hm hr h)
 refine⟨x.r,fun g b h=>by cases g;exact x.F b h;exact x.G b h,fun g b h=>by cases g;exact hF b h;exact hF b (ok.gf b h),fun l b h=>⟨by rw[x.T];exact h,x.heap b (ok.sf.tb l b h).1.1 (fun l' ob c _ hr=>(ok.sf.tb l b h).2.2.1 l' c hr)⟩,
  fun b h=>⟨by rw[x.Z];exact h,.of_eq (x.heap b (ok.sf.zb b h).1.2.1 (fun l' ob c _ hr=>(ok.sf.zb b h).2.2.1 l' c hr))⟩,x.n⟩
def AWX (P:Program) (o:Oper) (needs:List (Operand×T)) (nob:List (Nat×Ob)) (out:T) (nw up:List (Nat×Ob)):Prop:=
 ∀(cx:Cx) (E:Env) (a:Act) (w:World),cQ cx E w→(∀x t,(x,t)∈needs→cvT E w t (a.eval x))→(∀l ob,(l,ob)∈nob→cy E w l ob)→
  (∀l ob,(l,ob)∈nw→E.r l=none∧rsv l=false)→
  o.wp P a w (fun a' w'=>∃v E',a'=a.put o.dst v∧cQ cx E' w'∧KR up E w E' w'∧cvT E' w' out v∧(∀l ob,(l,ob)∈nw→cy E' w' l ob)∧(∀l ob,(l,ob)∈up→cy E' w' l ob)∧
   (∀l x,E'.r l=some x→E.r l=some x∨∃ob,(l,ob)∈nw)) (fun _ _ _=>False)
theorem Ac {P:Program} {o:Oper} {needs:List (Operand×T)} {nob:List (Nat×Ob)} {out:T} {nw:List (Nat×Ob)} (h:AWN P o needs nob out nw):AWX P o needs nob out nw []:=by
 intro cx E a w ok hn hb hf
 refine Oper.wp_mono ?_ (h cx E a w ok hn hb hf)
 rintro a' w' ⟨v,E',h1,h2,h3,h4,h5,h6⟩
 exact⟨v,E',h1,h2,.of_ext h3,h4,h5,(fun _ _ h=>by cases h),h6⟩
theorem KX {P:Program} {d:Tmp} {ty:TypeId} {ps:String} {af:Array Edge} {gd:Option (Nat×Bool)} {f:FuncId} {args:List Operand} {tys:Array TypeId} {nx o:Nat} {x0 y:Ob} {ts ts':List T} {eqs:List (Nat×Nat)} {res:List RV} {out:T} {nw:List (Nat×Ob)} {n:Nat}
 (hF:FnW P f x0.loc ts' y res) (hlen:ts.length=args.length) (hfx:x0.free=true) (hfy:y.free=true) (ha:yK [] o ts=some (ts',eqs)) (he:Eqs eqs) (hi:Cb nx res=some (out,nw,n)):
 AWX P ⟨some d,.call ⟨.value (.func f),args.toArray,tys⟩,ty,ps,af,gd⟩ (args.zip ts) [(o,x0)] out nw [(o,y)]:=by
 intro cx E a w ok hn hb hfr
 obtain⟨nob,hnob⟩:∃nob:List (Nat×Ob),nob=[]:=⟨_,rfl⟩
 rw[←hnob] at ha
 have hob:∀l x,go nob l=some x→cy E w l x:=fun l x h=>by subst hnob;cases h
 have hx0:=hb o x0 (by simp)
 obtain⟨b,c0,hr,hbF⟩:∃b c0,E.r o=some (b,c0)∧¬E.F b:=by
  cases x0 with
  |rown ty sz els g=>exact absurd hfx UI
  |abs l y=>exact absurd hfx UI
  |var t cs=>obtain⟨b,c,arr,h1,h2,h3,h4⟩:=hx0;exact⟨b,c,h1,h4⟩
  |row t sz els g m=>
   obtain⟨b,c,arr,h1,h2,h3,h4,h5,h6,h7,h8,h9⟩:=hx0
   have hm:m=true:=hfx
   subst hm
   exact⟨b,c,h1,h8 rfl⟩
 have hbC:¬jt E nob b:=by
  rintro(h|⟨l,x,c,h1,h2⟩)
  ·exact hbF h
  ·subst hnob;cases h1
 have hFb:∀b,jt E nob b→b<w.heap.size:=by
  rintro b (h|⟨l,x,c,h1,h2⟩)
  ·exact ok.fb b h
  ·exact(ok.rb l b c h2).1
 have hbs0:=(ok.rb o b c0 hr).1
 have hA:=AP (a:=a) ok hob hr ha he hlen hn
 have hX:cy (E0 b c0 (jt E nob)) w 200 x0.loc:=by
  have hl:=Di ok hfx hx0
  have hnoG:∀E2:Env,(∀k,E.F k→E2.F k)→E2.r 200=some (b,c0)→¬E2.F b→cy E2 w 200 x0.loc:=by
   intro E2 h1 h2 h3
   cases x0 with
   |rown ty sz els g=>exact absurd hfx UI
   |abs l y=>exact absurd hfx UI
   |var t cs=>
    obtain⟨b',c',arr,k1,k2,k3,k4⟩:=hl
    rw[hr] at k1;cases k1
    refine⟨b,c0,arr,h2,k2,?_,h3⟩
    have key:∀(cs:List C) (us:List Value),cs.all C.free=true→CV E w (cs.map C.loc) us→CV E2 w (cs.map C.loc) us:=by
     intro cs
     induction cs with
     |nil=>
      intro us _ h
      cases us with
      |nil=>trivial
      |cons _ _=>exact h.elim
     |cons c cs ih=>
      intro us hf h
      simp only[TF,hV] at hf
      cases us with
      |nil=>exact h.elim
      |cons u us=>
       refine⟨?_,ih us hf.2 h.2⟩
       have h5:=h.1
       cases c with
       |d g y=>exact cj (fun _ _=>rfl) h1 _ _ h5
       |nil=>exact h5
       |fn f=>exact h5
       |any=>trivial
       |_=>simp[C.free] at hf
    exact key cs _ hfx k3
   |row t sz els g m=>
    obtain⟨b',c',arr,k1,k2,k3,k4,k5,k6,k7,k8,k9⟩:=hl
    rw[hr] at k1;cases k1
    have hm:m=true:=hfx
    subst hm
    exact⟨b,c0,arr,h2,k2,k3,k4,k5,k6,cm (fun _ _=>rfl) h1 rfl _ _ k7,fun _=>h3,fun h=>by cases h⟩
  exact hnoG _ (fun k hk=>.inl hk) (by simp[E0]) hbC
 have hc:=hF.calls (jt E nob) w (args.map a.eval).toArray b c0 hFb hbs0 ok.tabs (ok.ntab hr) hX (by simpa using hA)
 have hent:=hF.enters (args.map a.eval).toArray w
 unfold Oper.wp
 have hrun:(execOp a.eval ⟨some d,.call ⟨.value (.func f),args.toArray,tys⟩,ty,ps,af,gd⟩).run P w= .ok (.enter f (args.map a.eval).toArray) w:=by
  simp only[execOp,resolve,Act.eval,Deferred.ofValue,Sem.run_bind,Sem.run_pure,Result.andThen_ok,invoke]
  simpa using hent
 rw[hrun,Oper.upon_enter]
 refine hc.mono ?_
 rintro e w' ⟨v,G,bs,rfl,hpast,hG2,hres,hnd,hY⟩
 have hbs:=EI hres
 have hlab:∀l,nx≤l→l<nx+bs.length→E.r l=none∧rsv l=false:=by
  have himp:=uj (E:=⟨fun o=>bs[o-nx]?,G,G,fun _ _=>False,fun _=>False,fun _=>False⟩) (fun _ h=>h) (fun b _ h=>h) hi hres (fun i p hi=>by simpa using hi)
  intro l h1 h2
  obtain⟨x,hx⟩:=himp.2.2.2 l h1 (by rw[himp.2.1];exact h2)
  exact hfr l x hx
 let E':Env:=⟨fun l=>if nx≤l∧l<nx+bs.length then bs[l-nx]? else E.r l,fun k=>E.F k∨G k,fun k=>E.G k∨G k,E.T,E.Z,E.n⟩
 have hsz:=hpast.size
 have hws:=ok.size
 have hold:∀l p,E.r l=some p→E'.r l=some p:=fun l p h=>by
  show(if nx≤l∧l<nx+bs.length then bs[l-nx]? else E.r l)=some p
  rw[if_neg]
  ·exact h
  ·rintro⟨h1,h2⟩;have:=(hlab l h1 h2).1;rw[this] at h;cases h
 have hnew:∀l b c,E'.r l=some (b,c)→(nx≤l∧l<nx+bs.length∧bs[l-nx]?=some (b,c))∨(E.r l=some (b,c)):=by
  intro l b c h
  have h:(if nx≤l∧l<nx+bs.length then bs[l-nx]? else E.r l)=some (b,c):=h
  split at h
  ·rename_i hh;exact .inl ⟨hh.1,hh.2,h⟩
  ·exact .inr h
 have hheap:∀k,k<w.heap.size→k≠b→w'.heap[k]?=w.heap[k]?:=fun k hk hne=>hpast.block k hk hne
 have hHb:∀g k,E.H g k→k≠b∧k<w.heap.size:=fun g k hk=>⟨fun e=>by subst e;cases g;exact hbF hk;exact hbF (ok.gf _ hk),ok.hb hk⟩
 have ok':cQ cx E' w':=by
  refine⟨fun k h=>?_,fun k h=>?_,fun k h=>?_,fun l k c h=>?_,fun l l' k c c' h h'=>?_,by rw[hpast.os];exact ok.os,by rw[hpast.tape];exact ok.tape,by rw[hpast.output];exact ok.output,by omega,fun k h hW=>?_,fun l p hv h=>?_,fun k h=>?_,
   fun k h h'=>h.elim (fun h=>(ok.gc k h h').of_eq (hheap k (hHb false k h).2 (hHb false k h).1)) (fun h=>(hG2 k h).2.2),
   ok.sf.turn hr rfl rfl (fun k h=>h.elim .inl (fun h=>.inr (hG2 k h).1)) (fun l k c h=>by
    rcases hnew l k c h with⟨_,_,h⟩|h
    ·exact .inr (hbs _ (Tn h)).1
    ·exact .inl ⟨l,c,h⟩) hsz hheap⟩
  ·rcases h with h|h
   ·have:=ok.fb k h;omega
   ·exact(hG2 k h).2.1
  ·rcases h with h|h
   ·exact .inl (ok.gf k h)
   ·exact .inr h
  ·rcases h with h|h
   ·exact ok.gn k h
   ·have:=hG2 k h;omega
  ·rcases hnew l k c h with⟨_,_,h⟩|h
   ·have:=hbs _ (Tn h);exact⟨this.2,.inl (by have:=this.1;simp at this;omega)⟩
   ·have:=ok.rb l k c h;exact⟨by omega,this.2⟩
  ·rcases hnew l k c h with⟨h1,h2,h3⟩|h3<;>rcases hnew l' k c' h' with⟨k1,k2,k3⟩|k3
   ·have hi:l-nx<bs.length:=by omega
    have hj:l'-nx<bs.length:=by omega
    rcases US (l-nx) (l'-nx) with hlt|heq|hlt
    ·exfalso
     have:=Uh.1 hnd (l-nx) (l'-nx) (by simpa using hi) (by simpa using hj) hlt
     rw[v0 hi] at h3;rw[v0 hj] at k3
     simp at h3 k3;simp[h3,k3] at this
    ·omega
    ·exfalso
     have:=Uh.1 hnd (l'-nx) (l-nx) (by simpa using hj) (by simpa using hi) hlt
     rw[v0 hi] at h3;rw[v0 hj] at k3
     simp at h3 k3;simp[h3,k3] at this
   ·have h5:=hbs _ (Tn h3);have h6:=ok.rb l' k c' k3;simp at h5;omega
   ·have h5:=hbs _ (Tn k3);have h6:=ok.rb l k c h3;simp at h5;omega
   ·exact ok.inj l l' k c c' h3 k3
  ·have hkb:k≠b:=fun e=>by
    subst e
    rcases(ok.rb o k c0 hr).2 with h'|h'
    ·omega
    ·exact hW h'.1
   rw[hheap k (by omega) hkb];exact ok.block k h hW
  ·rcases hnew l p.1 p.2 h with⟨h1,h2,_⟩|h
   ·rw[nu (hlab l h1 h2).2] at hv;cases hv
   ·exact ok.pin l p hv h
  ·rcases h with h|h
   ·exact ok.ff k h
   ·exact .inr (by have:=hG2 k h;omega)
 have himp:=uj (E:=E') (G:=G) (base:=w.heap.size) (fun b h=>.inr h) (fun b hb hng hF=>by
  rcases hF with h|h
  ·have:=ok.fb b h;omega
  ·exact hng h) hi hres (fun i p hi=>by
   have:i<bs.length:=(Tm.1 hi).1
   show(if nx≤nx+i∧nx+i<nx+bs.length then bs[nx+i-nx]? else E.r (nx+i))=some p
   rw[if_pos (by omega)];simpa using hi)
 refine⟨v,E',rfl,ok',⟨hold,fun k h=>.inl h,fun k h=>.inl h,fun k h=>h.elim .inl (fun h=>.inr (hG2 k h).1),fun k hk hne=>hheap k hk (fun e=>by subst e;exact hne o y c0 (by simp) hr),fun l ob k c hm hl=>?_,rfl,rfl,rfl⟩,himp.1,fun l x hm=>(himp.2.2.1 l x hm).1,fun l x hm=>?_,fun l p h=>?_⟩
 ·simp at hm;obtain⟨rfl,rfl⟩:=hm;rw[hr] at hl;cases hl;exact hbF
 ·simp at hm;obtain⟨rfl,rfl⟩:=hm
  refine vH hfy (fun k c h=>?_) (fun g k h=>?_) (fun _ _ _=>rfl) (fun _ _ _=>rfl) (fun k c h hn hh=>?_) hY
  ·simp[E1] at h;rw[←h.1,←h.2];exact hold _ _ hr
  ·cases g with
   |false=>
    rcases h with h|h
    ·rcases h with h|⟨l,x,c,h1,h2⟩
     ·exact .inl h
     ·subst hnob;cases h1
    ·exact .inr h
   |true=>exact .inr h
  ·simp[E1] at h;obtain⟨rfl,rfl⟩:=h
   rcases hh with hh|hh
   ·exact hbF hh
   ·have:=hG2 _ hh;omega
 ·rcases hnew l p.1 p.2 h with⟨h1,h2,_⟩|h
  ·obtain⟨x,hx⟩:=himp.2.2.2 l h1 (by rw[himp.2.1];exact h2);exact .inr ⟨x,hx⟩
  ·exact .inl h
end Go.AM
namespace Go.AM
open Go.RowKit
def Ob.hasO (o:Nat):Ob→Bool
 | .var _ cs=>yG o cs
 | .row _ _ _ _ _=>false
 | .rown _ _ _ _=>false
 | .abs _ _=>false
structure oY (up:List (Nat×Ob)) (kl:Option Nat) (E:Env) (w:World) (E':Env) (w':World):Prop where
 r:∀o x,kl≠some o→E.r o=some x→E'.r o=some x
 F:∀b,E.F b→E'.F b
 G:∀b,E.G b→E'.G b
 F':∀b,E'.F b→E.F b∨w.heap.size≤b∨∀l c,kl≠some l→E.r l≠some (b,c)
 heap:∀b,b<w.heap.size→(∀l ob c,(l,ob)∈up→E.r l≠some (b,c))→(∀l c,kl=some l→E.r l≠some (b,c))→w'.heap[b]?=w.heap[b]?
 own:∀l ob b c,(l,ob)∈up→E.r l=some (b,c)→¬E.F b
 ownk:∀l b c,kl=some l→E.r l=some (b,c)→¬E.F b
 T:E'.T=E.T
 Z:E'.Z=E.Z
 n:E'.n=E.n
theorem oY.of_extW {E E':Env} {w w':World} {up:List (Nat×Ob)} (x:KR up E w E' w'):oY up none E w E' w':=
 ⟨fun o y _ h=>x.r o y h,x.F,x.G,(fun b h=>(x.F' b h).elim .inl (fun h=>.inr (.inl h))),fun b h h' _=>x.heap b h h',x.own,(fun _ _ _ h=>by cases h),x.T,x.Z,x.n⟩
section
variable {cx:Cx} {E E':Env} {w w':World} {up:List (Nat×Ob)} {kl:Option Nat}
theorem oY.hF (ok:cQ cx E w) (x:oY up kl E w E' w') (b:Nat) (h:E.F b):w'.heap[b]?=w.heap[b]?:=
 x.heap b (ok.fb b h) (fun l ob c hm hr=>x.own l ob b c hm hr h) (fun l c hl hr=>x.ownk l b c hl hr h)
theorem oY.hH (ok:cQ cx E w) (x:oY up kl E w E' w') (g:Bool) (b:Nat) (h:E.H g b):w'.heap[b]?=w.heap[b]?:=by
 cases g
 ·exact x.hF ok b h
 ·exact x.hF ok b (ok.gf b h)
theorem oY.H (x:oY up kl E w E' w') (g:Bool) (b:Nat) (h:E.H g b):E'.H g b:=by
 cases g
 ·exact x.F b h
 ·exact x.G b h
theorem oY.hT (ok:cQ cx E w) (x:oY up kl E w E' w') (l b:Nat) (h:E.T l b):E'.T l b∧w'.heap[b]?=w.heap[b]?:=
 ⟨by rw[x.T];exact h,x.heap b (ok.sf.tb l b h).1.1 (fun l' ob c _ hr=>(ok.sf.tb l b h).2.2.1 l' c hr) (fun l' c _ hr=>(ok.sf.tb l b h).2.2.1 l' c hr)⟩
theorem oY.hZ (ok:cQ cx E w) (x:oY up kl E w E' w') (b:Nat) (h:E.Z b):E'.Z b∧nW w w' b:=
 ⟨by rw[x.Z];exact h,.of_eq (x.heap b (ok.sf.zb b h).1.2.1 (fun l' ob c _ hr=>(ok.sf.zb b h).2.2.1 l' c hr) (fun l' c _ hr=>(ok.sf.zb b h).2.2.1 l' c hr))⟩
theorem oY.keeps (ok:cQ cx E w) (x:oY up none E w E' w'):iq E w E' w':=⟨fun o y h=>x.r o y (by simp) h,x.H,x.hH ok,x.hT ok,x.hZ ok,x.n⟩
theorem oY.but {o:Nat} (ok:cQ cx E w) (x:oY up (some o) E w E' w'):ku o E w E' w':=⟨fun l y hl h=>x.r l y (by simpa using Ne.symm hl) h,x.H,x.hH ok,x.hT ok,x.hZ ok,fun l _=>by rw[x.n]⟩
theorem Al (ok:cQ cx E w) (x:oY up kl E w E' w') {t:T} {u:Value} (hf:∀o,kl=some o→t.has o=false) (h:cvT E w t u):cvT E' w' t u:=by
 cases kl with
 |none=>exact ie (x.keeps ok) h
 |some o=>exact D4 (x.but ok) (hf o rfl) h
theorem Po (ok:cQ cx E w) (x:oY up kl E w E' w') {cs:List C} {us:List Value} (hf:∀o,kl=some o→yG o cs=false) (h:CV E w cs us):CV E' w' cs us:=by
 cases kl with
 |none=>exact nV (x.keeps ok) h
 |some o=>exact HS (x.but ok) (hf o rfl) h
theorem Iz (ok:cQ cx E w) (x:oY up kl E w E' w') {o:Nat} {ob:Ob} (hno:∀ob',(o,ob')∉up) (hk:kl≠some o) (hh:∀d,kl=some d→ob.hasO d=false) (h:cy E w o ob):cy E' w' o ob:=by
 have hb:∀b c,E.r o=some (b,c)→w'.heap[b]?=w.heap[b]?:=fun b c hr=>
  x.heap b (ok.rb o b c hr).1 (fun l ob' c' hm hr'=>by have:=ok.inj _ _ _ _ _ hr hr';subst this;exact hno _ hm) (fun l c' hl hr'=>by have:=ok.inj _ _ _ _ _ hr hr';subst this;exact hk hl)
 have hF:∀b c,E.r o=some (b,c)→¬E.F b→¬E'.F b:=fun b c hr hn hF=>(x.F' b hF).elim hn (fun h=>h.elim (fun hb=>by have:=(ok.rb o b c hr).1;omega) (fun hb=>hb o c hk hr))
 cases ob with
 |var ty cs=>
  obtain⟨b,c,arr,hr,hh',hc,hf⟩:=h
  exact⟨b,c,arr,x.r _ _ hk hr,(hb b c hr).trans hh',Po ok x hh hc,hF b c hr hf⟩
 |row ty sz els g m=>
  obtain⟨b,c,arr,hr,hh',h1,h2,h3,h4,h5,h6,h7⟩:=h
  exact⟨b,c,arr,x.r _ _ hk hr,(hb b c hr).trans hh',h1,h2,h3,h4,cm (x.hH ok g) (x.H g) (hb b c hr) _ _ h5,fun hm=>hF b c hr (h6 hm),fun hm=>⟨x.H false b (h7 hm).1,fun hg=>x.H true b ((h7 hm).2 hg)⟩⟩
 |rown ty sz els g=>
  rcases h with⟨h0,h1⟩|⟨h0,b,c,arr,hr,hh',h1,h2,h3,h4,h5,h6⟩
  ·exact .inl ⟨by rw[x.n];exact h0,h1⟩
  ·exact .inr ⟨by rw[x.n];exact h0,b,c,arr,x.r _ _ hk hr,(hb b c hr).trans hh',h1,h2,h3,h4,cm (x.hH ok g) (x.H g) (hb b c hr) _ _ h5,hF b c hr h6⟩
 |abs l y=>
  rcases h with⟨h0,h1⟩|⟨h0,b,c,hr,h1,h2⟩
  ·exact .inl ⟨by rw[x.n];exact h0,h1⟩
  ·exact .inr ⟨by rw[x.n];exact h0,b,c,x.r _ _ hk hr,y.st _ _ _ _ _ _ h1 (fun k hk=>(x.hT ok l k hk).1) (hb b c hr) (fun k hk=>(x.hT ok l k hk).2),hF b c hr h2⟩
end
def AWK (P:Program) (o:Oper) (needs:List (Operand×T)) (nob:List (Nat×Ob)) (out:T) (nw up:List (Nat×Ob)) (kl:Option Nat):Prop:=
 ∀(cx:Cx) (E:Env) (a:Act) (w:World),cQ cx E w→(∀x t,(x,t)∈needs→cvT E w t (a.eval x))→(∀l ob,(l,ob)∈nob→cy E w l ob)→
  (∀l ob,(l,ob)∈nw→E.r l=none∧rsv l=false)→
  o.wp P a w (fun a' w'=>∃v E',a'=a.put o.dst v∧cQ cx E' w'∧oY up kl E w E' w'∧cvT E' w' out v∧(∀l ob,(l,ob)∈nw→cy E' w' l ob)∧(∀l ob,(l,ob)∈up→cy E' w' l ob)∧
   (∀l x,E'.r l=some x→E.r l=some x∨∃ob,(l,ob)∈nw)) (fun _ _ _=>False)
theorem qQ {P:Program} {o:Oper} {needs:List (Operand×T)} {nob:List (Nat×Ob)} {out:T} {nw up:List (Nat×Ob)} (h:AWX P o needs nob out nw up):AWK P o needs nob out nw up none:=by
 intro cx E a w ok hn hb hf
 refine Oper.wp_mono ?_ (h cx E a w ok hn hb hf)
 rintro a' w' ⟨v,E',h1,h2,h3,h4,h5,h6,h7⟩
 exact⟨v,E',h1,h2,.of_extW h3,h4,h5,h6,h7⟩
def Py (d:Nat) (ob0:List (Nat×Ob)) (k:Nat):Bool:=d0 k d||match go ob0 k with
 |some x=>x.hasO d
 |none=>false
def As (d:Nat) (ob0:List (Nat×Ob)):List (Nat×Ob)→Option (List (Nat×Ob))
 |[]=>some []
 |(k,x)::r=>match As d ob0 r,Py d ob0 k with
  |some r',true=>some r'
  |some r',false=>some ((k,x)::r')
  |none,_=>none
def AK:List Nat→List (Nat×T)→List (Nat×Ob)→Option (List (Nat×T)×List (Nat×Ob))
 |[],sl,ob=>some (sl,ob)
 |d::ds,sl,ob=>match mn d sl,As d ob ob with
  |some sl',some ob'=>AK ds sl' ob'
  |_,_=>none
theorem At {d:Nat} {ob0:List (Nat×Ob)}:∀{ob ob':List (Nat×Ob)},As d ob0 ob=some ob'→∀{l:Nat} {x:Ob},go ob' l=some x→Py d ob0 l=false∧go ob l=some x
 |[],ob',h,l,x,hl=>by simp[As] at h;subst h;cases hl
 |(k,y)::r,ob',h,l,x,hl=>by
  simp only[As] at h
  cases h1:As d ob0 r with
  |none=>simp[h1] at h
  |some r'=>
   cases h2:Py d ob0 k with
   |true=>
    simp[h1,h2] at h;subst h
    have ih:=At h1 hl
    refine⟨ih.1,?_⟩
    rw[bA _ _ (fun e=>by subst e;rw[h2] at ih;cases ih.1)];exact ih.2
   |false=>
    simp[h1,h2] at h;subst h
    by_cases hk:k=l
    ·subst hk;rw[cg] at hl ⊢;cases hl;exact⟨h2,rfl⟩
    ·rw[bA _ _ hk] at hl ⊢;exact At h1 hl
theorem Gx:∀{ds:List Nat} {sl sl':List (Nat×T)} {ob ob':List (Nat×Ob)},AK ds sl ob=some (sl',ob')→
 (∀k,gt sl' k= .any∨(gt sl' k=gt sl k∧∀d∈ds,(gt sl k).has d=false))∧(∀l x,go ob' l=some x→go ob l=some x∧∀d∈ds,l≠d∧x.hasO d=false)
 |[],sl,sl',ob,ob',h=>by
  simp[AK] at h;obtain⟨rfl,rfl⟩:=h
  exact⟨fun k=>.inr ⟨rfl,by simp⟩,fun l x h=>⟨h,by simp⟩⟩
 |d::ds,sl,sl',ob,ob',h=>by
  simp only[AK] at h
  cases h1:mn d sl with
  |none=>simp[h1] at h
  |some sl1=>
   cases h2:As d ob ob with
   |none=>simp[h1,h2] at h
   |some ob1=>
    simp only[h1,h2] at h
    obtain⟨i1,i2⟩:=Gx h
    refine⟨fun k=>?_,fun l x hl=>?_⟩
    ·rcases i1 k with e|⟨e1,e2⟩
     ·exact .inl e
     ·rcases tf h1 k with e|⟨e3,e4⟩
      ·exact .inl (by rw[e1,e])
      ·refine .inr ⟨by rw[e1,e3],fun d' hd'=>?_⟩
       rcases Tq.1 hd' with rfl|hd'
       ·exact e4
       ·rw[←e3];exact e2 d' hd'
    ·obtain⟨e1,e2⟩:=i2 l x hl
     obtain⟨e3,e4⟩:=At h2 e1
     refine⟨e4,fun d' hd'=>?_⟩
     rcases Tq.1 hd' with rfl|hd'
     ·simp only[Py,e4,Ua] at e3
      exact⟨gq e3.1,e3.2⟩
     ·exact e2 d' hd'
end Go.AM
namespace Go.AM
open Go.RowKit
structure Inx where
 x:Inf
 up:List (Nat×Ob)
 kl:Option Nat
def MU (N:Nat) (o:Oper) (x:Inf):Prop:=(o.dst=some x.d∧x.d<N)∨(o.dst=none∧N≤x.d∧x.out= .any)
def NX (P:Program) (N:Nat) (o:Oper) (st st':St) (y:Inx):Prop:=
 AWK P o y.x.needs y.x.nob y.x.out y.x.nw y.up y.kl∧MU N o y.x∧Lk st.sl y.x.needs∧Lo st.ob y.x.nob∧Nw st.nx y.x.nw st'.nx∧st'=⟨(y.x.d,y.x.out)::st.sl,y.x.nw++(y.up++st.ob),st'.nx⟩
theorem GL {P:Program} {N:Nat} {o:Oper} {st st':St} {x:Inf} (h:NS P N o st st' x):NX P N o st st' ⟨x,[],none⟩:=by
 obtain⟨h1,h2,h3,h4,h5,h6,h7⟩:=h
 exact⟨qQ (Ac h1),.inl ⟨h2,h3⟩,h4,h5,h6,h7⟩
def DS2 (P:Program) (N:Nat) (ops:Array Oper) (o:Oper) (st st':St) (y:Inx):Prop:=
 (o.guard=none∧NX P N o st st' y)∨
 (∃j dj b z,o.guard=some (j,b)∧(ops[j]?).bind (·.dst)=some dj∧dj<N∧gt st.sl dj=tB b∧NX P N o st st' z∧y=⟨{z.x with needs:=(.tmp dj,tB b)::z.x.needs},z.up,z.kl⟩)∨
 (∃j dj b d,o.guard=some (j,b)∧(ops[j]?).bind (·.dst)=some dj∧dj<N∧noG b (gt st.sl dj)=true∧o.dst=some d∧d<N∧y=⟨⟨d,[(.tmp dj,gt st.sl dj)],[],.tup [],[]⟩,[],none⟩∧st'=⟨(d,.tup [])::st.sl,st.ob,st.nx⟩)
def obF (p:Nat→Bool):Nat→List Inx→List (Nat×Ob)→List (Nat×Ob)
 |_,[],acc=>acc
 |k,y::ys,acc=>obF p (k+1) ys (if p k then y.x.nw++(y.up++acc) else acc)
def mD (y:Inx) (l:Nat):Bool:=(y.x.nw.any fun p=>d0 p.1 l)||(y.up.any fun p=>d0 p.1 l)
theorem wy {A B:List (Nat×Ob)} {l:Nat} (h:(A.any fun p=>d0 p.1 l)=false):go (A++B) l=go B l:=by
 induction A with
 |nil=>rfl
 |cons p A ih=>
  simp only[UX,Ua] at h
  obtain⟨k,v⟩:=p
  rw[TD,go,h.1]
  exact ih h.2
theorem ui {A B:List (Nat×Ob)} {l:Nat} (h:(A.any fun p=>d0 p.1 l)=true):go (A++B) l=go A l:=by
 induction A with
 |nil=>simp at h
 |cons p A ih=>
  obtain⟨k,v⟩:=p
  rw[TD,go,go]
  cases hk:d0 k l with
  |true=>rfl
  |false=>
   simp only[UX,hk,Bool.false_or] at h
   exact ih h
theorem nP {p q:Nat→Bool} {l:Nat}:∀{ys:List Inx} {k:Nat} {A B:List (Nat×Ob)},go A l=go B l→(∀j y,ys[j]?=some y→mD y l=true→p (k+j)=q (k+j))→go (obF p k ys A) l=go (obF q k ys B) l
 |[],_,_,_,h,_=>h
 |y::ys,k,A,B,h,ht=>by
  simp only[obF]
  refine nP ?_ (fun j z hz hj=>by have:=ht (j+1) z (by simpa using hz) hj;rwa [show k+(j+1)=k+1+j from by omega] at this)
  cases hto:mD y l with
  |true=>
   have h0:=ht 0 y rfl hto
   rw[TO] at h0
   rw[h0]
   split
   ·by_cases hn:(y.x.nw.any fun p=>d0 p.1 l)=true
    ·rw[ui hn,ui hn]
    ·rw[wy (A:=y.x.nw) (UL.2 hn),wy (A:=y.x.nw) (UL.2 hn)]
     have hu:(y.up.any fun p=>d0 p.1 l)=true:=by simp only[mD,T8] at hto;exact hto.resolve_left hn
     rw[ui hu,ui hu]
   ·exact h
  |false=>
   simp only[mD,Ua] at hto
   have e:∀X:List (Nat×Ob),go (y.x.nw++(y.up++X)) l=go X l:=fun X=>by rw[wy hto.1,wy hto.2]
   split<;>split<;>(try simp only[e])<;>exact h
theorem AZ {p:Nat→Bool} {y:Inx}:∀{ys:List Inx} {k:Nat} {A:List (Nat×Ob)},obF p k (ys++[y]) A=if p (k+ys.length) then y.x.nw++(y.up++obF p k ys A) else obF p k ys A
 |[],k,A=>by simp[obF]
 |z::ys,k,A=>by
  simp only[TD,obF,TY]
  rw[AZ,show k+1+ys.length=k+(ys.length+1) from by omega]
theorem th {p:Nat→Bool}:∀{ys:List Inx} {k n:Nat} {A:List (Nat×Ob)},(∀j,p (k+j)=decide (j<n))→obF p k ys A=obF (fun _=>true) k (ys.take n) A
 |[],k,n,A,_=>by simp[obF]
 |y::ys,k,0,A,h=>by
  have h0:=h 0
  simp at h0
  simp only[obF,List.take_zero,h0]
  have:=th (p:=p) (ys:=ys) (k:=k+1) (n:=0) (A:=A) (fun j=>by have:=h (j+1);simp at this ⊢;rwa [show k+(j+1)=k+1+j from by omega] at this)
  simpa [obF] using this
 |y::ys,k,n+1,A,h=>by
  have h0:=h 0
  simp at h0
  simp only[obF,TI,h0,if_true]
  exact th (fun j=>by have:=h (j+1);rw[show k+1+j=k+(j+1) from by omega,this];simp)
def obX (base:St) (ys:List Inx):List (Nat×Ob):=obF (fun _=>true) 0 ys base.ob
theorem NZ (base:St) (ys:List Inx) (y:Inx):obX base (ys++[y])=y.x.nw++(y.up++obX base ys):=by simp[obX,AZ]
def fB (ys:List Inx):List Inf:=ys.map (·.x)
def Mj (P:Program) (N:Nat) (ops:Array Oper) (base:St) (pre:List Inx) (o:Oper) (y:Inx):Prop:=
 (∀z t,(z,t)∈y.x.needs→opT (qJ base (fB pre)) z=t)∧(∀l ob,(l,ob)∈y.x.nob→go (obX base pre) l=some ob)∧MU N o y.x∧
 ((o.guard=none∧AWK P o y.x.needs y.x.nob y.x.out y.x.nw y.up y.kl)∨
  (∃j dj b ys,o.guard=some (j,b)∧(ops[j]?).bind (·.dst)=some dj∧dj<N∧y.x.needs=(.tmp dj,tB b)::ys∧AWK P o ys y.x.nob y.x.out y.x.nw y.up y.kl)∨
  (∃j dj b t,o.guard=some (j,b)∧(ops[j]?).bind (·.dst)=some dj∧dj<N∧y.x.needs=[(.tmp dj,t)]∧noG b t=true∧y.x.out= .tup []∧y.x.nw=[]∧y.up=[]∧y.kl=none))
theorem L6 {P:Program} {N:Nat} {ops:Array Oper} {base st st1 st2:St} {ys:List Inx} {o:Oper} {y:Inx} (hds:DS2 P N ops o st st1 y) (hsame:uJ st1 st2) (h1:∀k,gt st.sl k=gt (qJ base (fB ys)) k) (h2:st.ob=obX base ys) (h3:eB base.nx (fB ys) st.nx):
 Mj P N ops base ys o y∧(∀k,gt st2.sl k=gt (qJ base (fB (ys++[y]))) k)∧st2.ob=obX base (ys++[y])∧eB base.nx (fB (ys++[y])) st2.nx:=by
 have hput:∀(out:T) (nw up:List (Nat×Ob)) (n:Nat),y.x.out=out→y.x.nw=nw→y.up=up→st1=⟨(y.x.d,out)::st.sl,nw++(up++st.ob),n⟩→Nw st.nx nw n→(∀k,gt st2.sl k=gt (qJ base (fB (ys++[y]))) k)∧st2.ob=obX base (ys++[y])∧eB base.nx (fB (ys++[y])) st2.nx:=by
  rintro out nw up n rfl rfl rfl rfl hnw
  refine⟨fun k=>?_,?_,?_⟩
  ·rw[←hsame.1 k];simp only[fB,UK,Uu,UN];rw[uC]
   by_cases hk:y.x.d=k
   ·rw[hk,dL,dL]
   ·rw[cR _ _ hk,cR _ _ hk];exact h1 k
  ·rw[←hsame.2.1,NZ,h2]
  ·rw[←hsame.2.2];simp only[fB,UK,Uu,UN];exact h3.snoc hnw
 rcases hds with⟨hg,k1,k2,k4,k5,k6,k7⟩|⟨j,dj,b,z,hg,hj,hdj,hb,⟨k1,k2,k4,k5,k6,k7⟩,rfl⟩|⟨j,dj,b,d,hg,hj,hdj,hb,hd,hN,rfl,rfl⟩
 ·exact⟨⟨fun z t hm=>by rw[←ov h1];exact Lk.mem k4 z t hm,fun l' ob hm=>by rw[←h2];exact Lo.mem k5 l' ob hm,k2,.inl ⟨hg,k1⟩⟩,hput _ _ _ _ rfl rfl rfl k7 k6⟩
 ·refine⟨⟨fun y' t hm=>?_,fun l' ob hm=>by rw[←h2];exact Lo.mem k5 l' ob hm,k2,.inr (.inl ⟨j,dj,b,z.x.needs,hg,hj,hdj,rfl,k1⟩)⟩,hput _ _ _ _ rfl rfl rfl k7 k6⟩
  rw[←ov h1]
  rcases Tq.1 hm with e|hm
  ·cases e;exact hb
  ·exact Lk.mem k4 y' t hm
 ·refine⟨⟨fun y' t hm=>?_,by simp,.inl ⟨hd,hN⟩,.inr (.inr ⟨j,dj,b,_,hg,hj,hdj,rfl,hb,rfl,rfl,rfl,rfl⟩)⟩,hput (.tup []) [] [] st.nx rfl rfl rfl rfl rfl⟩
  rw[←ov h1]
  simp at hm;obtain⟨rfl,rfl⟩:=hm;rfl
def p3 (y:Inx):List Nat:=y.x.nob.map (·.1)++(y.x.nw.map (·.1)++y.up.map (·.1))
def D8 (ops:Array Oper):Bool:=
 (TU ops.size).all fun i=>match ops[i]? with
  |some o=>o.after.toList.all fun e=>!Region.binds .any e||nlt e.on i
  |none=>false
def p5 (l:List Nat) (n:Nat):Bool:=l.any fun k=>d0 k n
def at0 (seg:List Nat) (j:Nat):Nat:=seg.getD j 0
def vZ (y:Inx) (d:Nat):Bool:=(y.x.needs.any fun p=>p.2.has d)||p5 (p3 y) d||(y.x.nob.any fun p=>p.2.hasO d)
def RX (ops:Array Oper) (seg:List Nat) (ys:List Inx):Bool:=
 (TU ys.length).all fun j=>match ys[j]? with
  |some z=>match z.kl with
   |none=>true
   |some d=>(TU ys.length).all fun i=>match ys[i]? with
    |some y=>d0 i j||!vZ y d||anc ops ops.size (at0 seg j) (at0 seg i)
    |none=>false
  |none=>false
def xl (ops:Array Oper) (done seg:List Nat) (ys:List Inx):Bool:=
 n9 (fB ys)&&d0 seg.length ys.length&&lG (seg++done)&&(seg.all fun i=>nlt i ops.size)&&
 ((TU ys.length).all fun i=>match ys[i]? with
  |some y=>
   ((gv y.x.needs).all fun k=>match qa (fB ys) k with
    |none=>true
    |some j=>if nlt j i then anc ops ops.size (at0 seg i) (at0 seg j) else d0 i j||anc ops ops.size (at0 seg j) (at0 seg i))&&
   ((p3 y).all fun l=>(TU ys.length).all fun j=>match ys[j]? with
    |some z=>!mD z l||(if nlt j i then anc ops ops.size (at0 seg i) (at0 seg j) else d0 i j||anc ops ops.size (at0 seg j) (at0 seg i))
    |none=>false)
  |none=>false)&&
 ((TU ops.size).all fun j=>p5 done j||p5 seg j||seg.all fun i=>anc ops ops.size j i)&&RX ops seg ys
def B1 (f:Nat→Nat) (ys:List Inx) (listed:Array Bool) (d:Nat):Prop:=∃j y,listed.getD (f j) false=true∧ys[j]?=some y∧y.kl=some d
structure KS (N:Nat) (cx:Cx) (base:St) (f:Nat→Nat) (ys:List Inx) (listed:Array Bool) (a:Act) (w:World) (E:Env):Prop where
 ok:cQ cx E w
 dom:∀l x,E.r l=some x→l<base.nx∨∃j y ob,listed.getD (f j) false=true∧ys[j]?=some y∧(l,ob)∈y.x.nw
 obs:∀l ob,go (obF (fun j=>listed.getD (f j) false) 0 ys base.ob) l=some ob→(∀d,B1 f ys listed d→l≠d∧ob.hasO d=false)→cy E w l ob
 out:∀j y,listed.getD (f j) false=true→ys[j]?=some y→(∀d,B1 f ys listed d→y.x.out.has d=false)→cvT E w y.x.out (a.tmps.getD y.x.d undef)
 old:∀k,(∀j y,listed.getD (f j) false=true→ys[j]?=some y→y.x.d≠k)→(∀d,B1 f ys listed d→(gt base.sl k).has d=false)→cvT E w (gt base.sl k) (a.tmps.getD k undef)
 dfr:a.defers=[]
 size:a.tmps.size=N
 td:∀l b,E.T l b→l<base.nx
theorem Li {y:Inx} {l:Nat} (h:mD y l=true) {X:List (Nat×Ob)} {ob:Ob} (hg:go (y.x.nw++(y.up++X)) l=some ob):(l,ob)∈y.x.nw∨(l,ob)∈y.up:=by
 by_cases hn:(y.x.nw.any fun p=>d0 p.1 l)=true
 ·rw[ui hn] at hg;exact .inl (vu hg)
 ·have hu:(y.up.any fun p=>d0 p.1 l)=true:=by simp only[mD,T8] at h;exact h.resolve_left hn
  rw[wy (UL.2 hn),ui hu] at hg;exact .inr (vu hg)
theorem OY {y:Inx} {l:Nat} {ob:Ob} (h:(l,ob)∈y.up):mD y l=true:=by
 simp only[mD,T8,Ug]
 exact .inr ⟨(l,ob),h,by simp⟩
theorem I5 {y:Inx} {l:Nat} (h:mD y l=true):l∈p3 y:=by
 simp only[mD,T8,Ug] at h
 simp only[p3,TW,Ur]
 rcases h with⟨p,h1,h2⟩|⟨p,h1,h2⟩
 ·exact .inr (.inl ⟨p,h1,To h2⟩)
 ·exact .inr (.inr ⟨p,h1,To h2⟩)
section
variable {P:Program} {N:Nat} {cx:Cx} {ops:Array Oper} {base:St} {f:Nat→Nat} {ys:List Inx} {Q:Exit→Act→World→Prop}
def unl (ops:Array Oper) (listed:Array Bool):Nat:=((TU ops.size).filter fun i=>!listed.getD i false).length
def sD (ops:Array Oper) (listed:Array Bool):Prop:=∀i o,ops[i]?=some o→listed.getD i false=true→∀e∈o.after,Region.binds .any e=true→listed.getD e.on false=true
theorem oT {listed:Array Bool} {i:Nat} (hsz:listed.size=ops.size) (hio:i<ops.size) (hun:listed.getD i false=false):unl ops listed=unl ops (listed.setIfInBounds i true)+1:=by
 have hcount:∀(l:List Nat),l.Nodup→i∈l→(l.filter fun k=>!listed.getD k false).length=(l.filter fun k=>!(listed.setIfInBounds i true).getD k false).length+1:=by
  intro l
  induction l with
  |nil=>intro _ h;cases h
  |cons k l ihl=>
   intro hnd hm
   obtain⟨hk1,hk2⟩:=Un.1 hnd
   by_cases hki:i=k
   ·subst hki
    have hsame:(l.filter fun k=>!listed.getD k false)=(l.filter fun k=>!(listed.setIfInBounds i true).getD k false):=by
     apply UU
     intro z hz
     rw[bX (by omega),if_neg (fun e=>hk1 (by rw[e];exact hz))]
    rw[Uj (by simp only[Ue];exact hun),Uk (by rw[bX (by omega),if_pos rfl];simp),hsame,TY]
   ·have hml:i∈l:=by rcases Tq.1 hm with e|e;exact absurd e hki;exact e
    have:=ihl hk2 hml
    have hgk:(listed.setIfInBounds i true).getD k false=listed.getD k false:=by rw[bX (by omega),if_neg hki]
    cases hgd:listed.getD k false with
    |true=>rw[Uk (by simp only[hgd];simp),Uk (by simp only[hgk,hgd];simp)];exact this
    |false=>rw[Uj (by simp only[hgd];simp),Uj (by simp only[hgk,hgd];simp),TY,TY,this]
 exact hcount (TU ops.size) UV (by simpa using hio)
theorem sM {listed:Array Bool} {i:Nat} {o:Oper} (hsz:listed.size=ops.size) (hio:i<ops.size) (ho:ops[i]?=some o) (hd:∀e∈o.after,Region.binds .any e=true→listed.getD e.on false=true) (hcl:sD ops listed):sD ops (listed.setIfInBounds i true):=by
 intro j oj hj hdj e he hb
 rw[bX (by omega)]
 split
 ·rfl
 ·rw[bX (by omega)] at hdj
  split at hdj
  ·rename_i hij;subst hij;rw[ho] at hj;cases hj;exact hd e he hb
  ·exact hcl j oj hj hdj e he hb
def Edg (ops:Array Oper) (rk:Nat→Nat):Prop:=∀i o,ops[i]?=some o→∀e∈o.after,Region.binds .any e=true→e.on<ops.size∧rk e.on<rk i
theorem MX {ops:Array Oper} (hedge:∀i o,ops[i]?=some o→∀e∈o.after,Region.binds .any e=true→e.on<i):Edg ops (fun i=>i):=fun i o ho e he hb=>by
 have h:=hedge i o ho e he hb
 have hi:i<ops.size:=by
  rcases T9 i ops.size with h|h
  ·exact h
  ·rw[Ub h] at ho;cases ho
 exact⟨by omega,h⟩
theorem A4 {listed:Array Bool} {rk:Nat→Nat} (hedge:Edg ops rk) (hsz:listed.size=ops.size) {n:Nat} (hc:unl ops listed=n+1):Region.ready .any ops listed≠[]:=by
 intro h0
 have hex:∃i,i<ops.size∧listed.getD i false=false:=by
  have:((TU ops.size).filter fun i=>!listed.getD i false)≠[]:=fun e=>by unfold unl at hc;rw[e] at hc;simp at hc
  obtain⟨i,hi⟩:=UT _ this
  simp only[UO,UP,Ue] at hi
  exact⟨i,hi.1,hi.2⟩
 have hmin:∀n i,rk i≤n→i<ops.size→listed.getD i false=false→∃i,i∈Region.ready .any ops listed:=by
  intro n
  induction n using Nat.strongRecOn with
  |_ n ihn=>
   intro i hin his hif
   by_cases hd:∀e∈ops[i].after,Region.binds .any e=true→listed.getD e.on false=true
   ·refine⟨i,mem_ready.2 ⟨?_,ops[i],TA his,hd⟩⟩
    rw[Uf,TA (by omega)] at hif ⊢
    simpa using hif
   ·simp only[Classical.not_forall] at hd
    obtain⟨e,he,hb,hne⟩:=hd
    have hlt:=hedge i ops[i] (TA his) e he hb
    exact ihn (rk e.on) (by omega) e.on (Tt _) hlt.1 (by simpa using hne)
 obtain⟨i,h1,h2⟩:=hex
 obtain⟨j,hj⟩:=hmin (rk i) i (Tt _) h1 h2
 rw[h0] at hj;cases hj
theorem jy {listed:Array Bool} (hsz:listed.size=ops.size) {i:Nat} (hi:i∈Region.ready .any ops listed):i<ops.size∧listed.getD i false=false∧∃o,ops[i]?=some o∧∀e∈o.after,Region.binds .any e=true→listed.getD e.on false=true:=by
 obtain⟨h1,o,ho,hd⟩:=mem_ready.1 hi
 have hio:i<ops.size:=by
  rcases T9 i ops.size with h|h
  ·exact h
  ·rw[Ub h] at ho;cases ho
 refine⟨hio,?_,o,ho,hd⟩
 rw[Uf,TA (by omega)] at h1 ⊢
 simpa using h1
theorem vl {listed:Array Bool} (hcl:sD ops listed) {n i j:Nat} (h:anc ops n i j=true) (hi:∃o,ops[i]?=some o∧∀e∈o.after,Region.binds .any e=true→listed.getD e.on false=true):listed.getD j false=true:=nX hcl n i j h hi
theorem FD {listed:Array Bool} (hsz:listed.size=ops.size) (hcl:sD ops listed) {n i j:Nat} (h:anc ops n i j=true) (hi:listed.getD i false=true):listed.getD j false=true:=by
 have his:i<ops.size:=by
  rcases T9 i ops.size with h|h
  ·exact h
  ·rw[Uf,Ub (by omega)] at hi;cases hi
 exact nX hcl n i j h ⟨ops[i],TA his,hcl i _ (TA his) hi⟩
theorem Kg {o:Oper} {x:Inf} {a:Act} (h:MU N o x) (hs:a.tmps.size=N) (v:Value):a.put o.dst v=a.put (some x.d) v:=by
 rcases h with⟨h,_⟩|⟨h,h2,_⟩
 ·rw[h]
 ·rw[h]
  show a=a.put (some x.d) v
  unfold Act.put
  simp only
  rw[show a.tmps.setIfInBounds x.d v=a.tmps from UW (by omega)]
theorem Gk {a:Act} {d k:Nat} {v:Value} (h:a.tmps.size≤d):(a.put (some d) v).tmps.getD k undef=a.tmps.getD k undef:=by
 unfold Act.put
 simp only
 rw[show a.tmps.setIfInBounds d v=a.tmps from UW h]
theorem Le {listed:Array Bool} {a:Act} {w:World} {E:Env} (hI:KS N cx base f ys listed a w E) (hdst:n9 (fB ys)=true) {i:Nat} {y:Inx} (hx:ys[i]?=some y) (hil:f i<listed.size) (hinj:∀j,j<ys.length→f i=f j→i=j)
 (hun:listed.getD (f i) false=false) (hdN:y.x.d<N∨(N≤y.x.d∧y.x.out= .any)) (hord:∀l,mD y l=true→∀j z,ys[j]?=some z→mD z l=true→listed.getD (f j) false=decide (j<i))
 {v:Value} {E':Env} {w':World} (ok':cQ cx E' w') (ext:oY y.up y.kl E w E' w') (hv:cvT E' w' y.x.out v) (hnw:∀l ob,(l,ob)∈y.x.nw→cy E' w' l ob) (hup:∀l ob,(l,ob)∈y.up→cy E' w' l ob)
 (hdom:∀l x,E'.r l=some x→E.r l=some x∨∃ob,(l,ob)∈y.x.nw):KS N cx base f ys (listed.setIfInBounds (f i) true) (a.put (some y.x.d) v) w' E':=by
 have hD:∀d,B1 f ys listed d→B1 f ys (listed.setIfInBounds (f i) true) d:=fun d ⟨j,z,h1,h2,h3⟩=>⟨j,z,by
  rw[bX hil];split
  ·rfl
  ·exact h1,h2,h3⟩
 have hDi:∀d,y.kl=some d→B1 f ys (listed.setIfInBounds (f i) true) d:=fun d h=>⟨i,y,by rw[bX hil,if_pos rfl],hx,h⟩
 have hgx:∀(j:Nat) (z:Inx),ys[j]?=some z→(fB ys)[j]?=some z.x:=fun j z h=>by simp[fB,h]
 have hd':∀j z,ys[j]?=some z→j≠i→z.x.d≠y.x.d:=fun j z hj hne he=>hne (oc hdst j i z.x y.x (hgx j z hj) (hgx i y hx) he)
 have hlt:i<ys.length:=(Tm.1 hx).1
 refine⟨ok',fun l p hl=>?_,fun l ob hl hdd=>?_,fun j z hj hz hdd=>?_,fun k hkk hdd=>?_,hI.dfr,by simpa [Act.put] using hI.size,fun l b h=>hI.td l b (by rw[←ext.T];exact h)⟩
 ·rcases hdom l p hl with h|⟨ob,h⟩
  ·rcases hI.dom l p h with h|⟨j,z,ob,h1,h2,h3⟩
   ·exact .inl h
   ·refine .inr ⟨j,z,ob,?_,h2,h3⟩
    rw[bX hil];split
    ·rfl
    ·exact h1
  ·exact .inr ⟨i,y,ob,by rw[bX hil,if_pos rfl],hx,h⟩
 ·cases hto:mD y l with
  |true=>
   rw[nP (q:=fun j=>decide (j<i+1)) (B:=base.ob) rfl (fun j z hz hj=>by
    simp only[Tv]
    rw[bX hil]
    by_cases hji:f i=f j
    ·rw[if_pos hji];have:i=j:=hinj j (Tm.1 hz).1 hji
     subst this;simp
    ·rw[if_neg hji,hord l hto j z hz hj]
     have:i≠j:=fun e=>hji (by rw[e])
     simp only[decide_eq_decide];omega),th (n:=i+1) (fun j=>by simp),List.take_add_one,hx] at hl
   simp only[Option.toList_some] at hl
   rw[AZ,if_pos rfl] at hl
   rcases Li hto hl with h|h
   ·exact hnw l ob h
   ·exact hup l ob h
  |false=>
   rw[nP (q:=fun j=>listed.getD (f j) false) (B:=base.ob) rfl (fun j z hz hj=>by
    simp only[Tv]
    rw[bX hil,if_neg]
    intro e
    have:i=j:=hinj j (Tm.1 hz).1 e
    subst this;rw[hx] at hz;cases hz;rw[hto] at hj;cases hj)] at hl
   refine Iz hI.ok ext (fun ob' hm=>?_) (fun e=>(hdd l (hDi l e)).1 rfl) (fun d hd=>(hdd d (hDi d hd)).2) (hI.obs l ob hl (fun d hd=>hdd d (hD d hd)))
   rw[OY hm] at hto;cases hto
 ·by_cases hji:i=j
  ·subst hji;rw[hx] at hz;cases hz
   rcases hdN with hdN|⟨_,ho⟩
   ·rw[fO (by rw[hI.size];exact hdN),if_pos rfl];exact hv
   ·rw[ho];trivial
  ·rw[bX hil,if_neg (fun e=>hji (hinj j (Tm.1 hz).1 e))] at hj
   rcases hdN with hdN|⟨hdN,_⟩
   ·rw[fO (by rw[hI.size];exact hdN),if_neg (Ne.symm (hd' j z hz (Ne.symm hji)))]
    exact Al hI.ok ext (fun d hd=>hdd d (hDi d hd)) (hI.out j z hj hz (fun d hd=>hdd d (hD d hd)))
   ·rw[Gk (by rw[hI.size];exact hdN)]
    exact Al hI.ok ext (fun d hd=>hdd d (hDi d hd)) (hI.out j z hj hz (fun d hd=>hdd d (hD d hd)))
 ·have hxk:y.x.d≠k:=hkk i y (by rw[bX hil,if_pos rfl]) hx
  have hpp:(a.put (some y.x.d) v).tmps.getD k undef=a.tmps.getD k undef:=by
   rcases hdN with hdN|⟨hdN,_⟩
   ·rw[fO (by rw[hI.size];exact hdN),if_neg hxk]
   ·exact Gk (by rw[hI.size];exact hdN)
  rw[hpp]
  refine Al hI.ok ext (fun d hd=>hdd d (hDi d hd)) (hI.old k (fun j z hj hz=>hkk j z ?_ hz) (fun d hd=>hdd d (hD d hd)))
  rw[bX hil];split
  ·rfl
  ·exact hj
theorem DE {done:Nat→Bool} {rk:Nat→Nat} (hedge:Edg ops rk) (hhi:∀i,i<ys.length→f i<ops.size) (hinj:∀i j,i<ys.length→j<ys.length→f i=f j→i=j) (hdis:∀i,i<ys.length→done (f i)=false) {nmax:Nat} (hlab:eB base.nx (fB ys) nmax) (hdst:n9 (fB ys)=true)
 (hslot:∀i y,ys[i]?=some y→∀k∈gv y.x.needs,∀j,qa (fB ys) k=some j→if nlt j i then anc ops ops.size (f i) (f j)=true else(i=j∨anc ops ops.size (f j) (f i)=true))
 (hobj:∀i y,ys[i]?=some y→∀l∈p3 y,∀j z,ys[j]?=some z→mD z l=true→if nlt j i then anc ops ops.size (f i) (f j)=true else(i=j∨anc ops ops.size (f j) (f i)=true))
 (hkill:∀j z d,ys[j]?=some z→z.kl=some d→∀i y,ys[i]?=some y→i≠j→vZ y d=true→anc ops ops.size (f j) (f i)=true)
 (htail:∀j,j<ops.size→done j=false→(∀i,i<ys.length→f i≠j)→∀i,i<ys.length→anc ops ops.size j (f i)=true)
 (htold:∀(i:Nat) (o:Oper) (y:Inx),ops[f i]?=some o→ys[i]?=some y→Mj P N ops base (ys.take i) o y)
 (hfin:∀(listed:Array Bool) a w E,listed.size=ops.size→sD ops listed→(∀j,done j=true→listed.getD j false=true)→(∀i,i<ys.length→listed.getD (f i) false=true)→(∀j,done j=false→(∀i,i<ys.length→f i≠j)→listed.getD j false=false)→KS N cx base f ys listed a w E→wpAny P .any ops Q (unl ops listed) listed a w):
 ∀(m:Nat) (listed:Array Bool) (a:Act) (w:World) (E:Env),((TU ys.length).filter fun i=>!listed.getD (f i) false).length=m→listed.size=ops.size→sD ops listed→
  (∀j,done j=true→listed.getD j false=true)→(∀j,done j=false→(∀i,i<ys.length→f i≠j)→listed.getD j false=false)→KS N cx base f ys listed a w E→wpAny P .any ops Q (unl ops listed) listed a w:=by
 intro m
 induction m with
 |zero=>
  intro listed a w E hm hsz hcl hpre hpost hI
  refine hfin listed a w E hsz hcl hpre (fun i hi=>?_) hpost hI
  have:=List.filter_eq_nil_iff.1 (List.eq_nil_of_length_eq_zero hm) i (by simpa using hi)
  simpa using this
 |succ m ih=>
  intro listed a w E hm hsz hcl hpre hpost hI
  obtain⟨i0,hi0,hu0⟩:∃i,i<ys.length∧listed.getD (f i) false=false:=by
   have:((TU ys.length).filter fun i=>!listed.getD (f i) false)≠[]:=fun e=>by rw[e] at hm;simp at hm
   obtain⟨i,hi⟩:=UT _ this
   simp only[UO,UP,Ue] at hi
   exact⟨i,hi.1,hi.2⟩
  have hus:=oT (ops:=ops) hsz (hhi i0 hi0) hu0
  rw[hus]
  refine⟨fun h0=>absurd h0 (A4 hedge hsz hus),fun p hp=>?_⟩
  obtain⟨hio,hun,o,ho,hd⟩:=jy hsz hp
  have hdp:done p=false:=by
   cases h:done p with
   |false=>rfl
   |true=>rw[hpre p h] at hun;cases hun
  obtain⟨i,hil,rfl⟩:∃i,i<ys.length∧p=f i:=by
   apply Classical.byContradiction
   intro hno
   have hno':∀i,i<ys.length→f i≠p:=fun i hi e=>hno ⟨i,hi,e.symm⟩
   have:=vl hcl (htail p hio hdp hno' i0 hi0) ⟨o,ho,hd⟩
   rw[this] at hu0;cases hu0
  obtain⟨y,hx⟩:∃y,ys[i]?=some y:=⟨_,v0 hil⟩
  have hus':unl ops (listed.setIfInBounds (f i0) true)=unl ops (listed.setIfInBounds (f i) true):=by
   have:=oT (ops:=ops) hsz hio hun;omega
  rw[hus']
  obtain⟨t1,t2,t3,t5⟩:=htold i o y ho hx
  have t4:y.x.d<N∨(N≤y.x.d∧y.x.out= .any):=t3.imp (·.2) (·.2)
  have hanc:∀j,anc ops ops.size (f i) (f j)=true→listed.getD (f j) false=true:=fun j h=>vl hcl h ⟨o,ho,hd⟩
  have hanc':∀j,anc ops ops.size (f j) (f i)=true→listed.getD (f j) false=false:=fun j h=>by
   cases hj:listed.getD (f j) false with
   |false=>rfl
   |true=>rw[FD hsz hcl h hj] at hun;cases hun
  have hord:∀l∈p3 y,∀j z,ys[j]?=some z→mD z l=true→listed.getD (f j) false=decide (j<i):=by
   intro l hl j z hz hj
   have:=hobj i y hx l hl j z hz hj
   by_cases hji:j<i
   ·rw[if_pos (by simp[nlt];omega)] at this
    rw[hanc j this];simp[hji]
   ·rw[if_neg (by simp[nlt];omega)] at this
    simp only[hji,decide_false]
    rcases this with rfl|h
    ·exact hun
    ·exact hanc' j h
  have hsp:∀d,B1 f ys listed d→vZ y d=false:=fun d ⟨j,z,h1,h2,h3⟩=>by
   cases hs:vZ y d with
   |false=>rfl
   |true=>
    have hij:i≠j:=fun e=>by subst e;rw[hun] at h1;cases h1
    rw[hanc' j (hkill j z d h2 h3 i y hx hij hs)] at h1;cases h1
  have hneeds:∀z t,(z,t)∈y.x.needs→cvT E w t (a.eval z):=by
   intro z t hm
   have hnt:∀d,B1 f ys listed d→t.has d=false:=fun d hd=>by
    have:=hsp d hd
    simp only[vZ,Ua] at this
    have:=UQ.1 this.1.1 (z,t) hm
    simpa using this
   have ht:=t1 z t hm
   cases z with
   |tmp k=>
    have hks:k∈gv y.x.needs:=by
     have key:∀(l:List (Operand×T)),(Operand.tmp k,t)∈l→k∈gv l:=by
      intro l
      induction l with
      |nil=>intro h;cases h
      |cons p r ihl=>
       intro h
       rcases Tq.1 h with e|h
       ·rw[←e];simp[gv]
       ·have h9:=ihl h;obtain⟨z,u⟩:=p;cases z<;>simp[gv,h9]
     exact key _ hm
    show cvT E w t (a.tmps.getD k undef)
    have ht':gt (qJ base (fB (ys.take i))) k=t:=ht
    have hit:fB (ys.take i)=(fB ys).take i:=by simp[fB,List.map_take]
    rw[hit] at ht'
    have hgx:∀(j:Nat) (z:Inf),(fB ys)[j]?=some z→∃y',ys[j]?=some y'∧y'.x=z:=fun j z h=>by
     simp only[fB,List.getElem?_map,Option.map_eq_some_iff] at h;exact h
    cases hw:qa (fB ys) k with
    |none=>
     have hno:∀z∈fB ys,z.d≠k:=by
      intro z hz e
      have:=List.findIdx?_eq_none_iff.1 hw z hz
      rw[e] at this;simp at this
     rw[uB _ _ (fun z hz=>hno z (List.mem_of_mem_take hz))] at ht'
     rw[←ht']
     exact hI.old k (fun j y' _ hy=>hno y'.x (Ur.2 ⟨y',Tn hy,rfl⟩)) (fun d hd=>by rw[ht'];exact hnt d hd)
    |some j=>
     have hs:=hslot i y hx k hks j hw
     obtain⟨hjl,hjp,_⟩:=List.findIdx?_eq_some_iff_getElem.1 hw
     have hjd:(fB ys)[j].d=k:=To hjp
     obtain⟨yj,hyj,hyx⟩:=hgx j _ (v0 hjl)
     have hju:∀j' z,(fB ys)[j']?=some z→z.d=k→j'=j:=fun j' z hy he=>oc hdst j' j z (fB ys)[j] hy (v0 hjl) (by rw[he,hjd])
     by_cases hji:j<i
     ·rw[if_pos (by simp[nlt];omega)] at hs
      have hdone:=hanc j hs
      have h9:=rN (base:=base) ((fB ys).take i) j (fB ys)[j] (by rw[TB,if_pos hji];exact v0 hjl) (fun j' z hy he=>hju j' z (by rw[TB] at hy;split at hy;exact hy;cases hy) (by rw[he,hjd]))
      rw[hjd] at h9
      have:=hI.out j yj hdone hyj (fun d hd=>by rw[hyx,←h9,ht'];exact hnt d hd)
      rw[hyx,hjd] at this
      rw[←ht',h9];exact this
     ·rw[if_neg (by simp[nlt];omega)] at hs
      rw[uB _ _ (fun z hz e=>by
       obtain⟨j',hj'⟩:=List.getElem?_of_mem hz
       rw[TB] at hj'
       split at hj'
       ·rename_i hlt;have:=hju j' z hj' e;omega
       ·cases hj')] at ht'
      rw[←ht']
      refine hI.old k (fun j' y' hj' hy he=>?_) (fun d hd=>by rw[ht'];exact hnt d hd)
      have hjj:=hju j' y'.x (by simp[fB,hy]) he
      subst hjj
      rcases hs with rfl|hs
      ·rw[hun] at hj';cases hj'
      ·rw[hanc' j' hs] at hj';cases hj'
   |const v=>have:=(show Rel N cx E ⟨[],[],base.nx⟩ a w→cvT E w (opT [] (.const v)) (a.eval (.const v)) from fun h=>h.op _);rw[←ht];cases v<;>simp only[opT,Act.eval,cvT,cvV]<;>first|exact ub E w _|exact⟨_,rfl,qc E w _⟩|(simp only[cvC,rdD])
   |func f=>rw[←ht];simp[opT,Act.eval,cvT,cvV,cvC]
   |global g=>rw[←ht];trivial
  have hnob:∀l ob,(l,ob)∈y.x.nob→cy E w l ob:=by
   intro l ob hm
   have hgo:=t2 l ob hm
   refine hI.obs l ob ?_ (fun d hd=>by
    have:=hsp d hd
    simp only[vZ,Ua] at this
    refine⟨fun e=>?_,by simpa using UQ.1 this.2 (l,ob) hm⟩
    subst e
    have h9:p5 (p3 y) l=true:=Ug.2 ⟨l,by simp only[p3,TW,Ur];exact .inl ⟨_,hm,rfl⟩,by simp⟩
    rw[h9] at this;cases this.1.2)
   rw[←hgo,obX,←th (p:=fun j=>decide (j<i)) (k:=0) (n:=i) (fun j=>by simp)]
   refine nP rfl (fun j z hz hj=>?_)
   rw[Tv]
   exact hord l (by simp only[p3,TW,Ur];exact .inl ⟨_,hm,rfl⟩) j z hz hj
  have hgi:(fB ys)[i]?=some y.x:=by simp[fB,hx]
  have hfresh:∀l ob,(l,ob)∈y.x.nw→E.r l=none:=by
   intro l ob hm
   cases hr:E.r l with
   |none=>rfl
   |some p=>
    have hlr:=(iD hlab).2 i y.x l ob hgi hm
    rcases hI.dom l p hr with h|⟨j,z,ob',h1,h2,h3⟩
    ·omega
    ·have:=(ul hlab i j y.x z.x l ob ob' hgi (by simp[fB,h2]) hm h3).1
     subst this;rw[hun] at h1;cases h1
  have hnext:∀v E' w',cQ cx E' w'→oY y.up y.kl E w E' w'→cvT E' w' y.x.out v→(∀l ob,(l,ob)∈y.x.nw→cy E' w' l ob)→(∀l ob,(l,ob)∈y.up→cy E' w' l ob)→(∀l x,E'.r l=some x→E.r l=some x∨∃ob,(l,ob)∈y.x.nw)→
   wpAny P .any ops Q (unl ops (listed.setIfInBounds (f i) true)) (listed.setIfInBounds (f i) true) (a.put (some y.x.d) v) w':=by
   intro v E' w' k1 k2 k3 k4 k4' k5
   refine ih _ _ _ E' ?_ (by simpa using hsz) (sM hsz hio ho hd hcl) (fun j hj=>?_) (fun j hj hj'=>?_) (Le hI hdst hx (by omega) (fun j hj e=>hinj i j hil hj e) hun t4 (fun l hl=>hord l (I5 hl)) k1 k2 k3 k4 k4' k5)
   ·have hcount:∀(l:List Nat),l.Nodup→(∀k∈l,k<ys.length)→i∈l→(l.filter fun k=>!listed.getD (f k) false).length=(l.filter fun k=>!(listed.setIfInBounds (f i) true).getD (f k) false).length+1:=by
     intro l
     induction l with
     |nil=>intro _ _ h;cases h
     |cons k l ihl=>
      intro hnd hbd hm
      obtain⟨hk1,hk2⟩:=Un.1 hnd
      by_cases hki:i=k
      ·subst hki
       have hsame:(l.filter fun k=>!listed.getD (f k) false)=(l.filter fun k=>!(listed.setIfInBounds (f i) true).getD (f k) false):=by
        apply UU
        intro z hz
        rw[bX (by omega),if_neg (fun e=>hk1 (by
         have:i=z:=hinj i z hil (hbd z (by simp[hz])) e
         rw[this];exact hz))]
       rw[Uj (by simp only[Ue];exact hun),Uk (by rw[bX (by omega),if_pos rfl];simp),hsame,TY]
      ·have hml:i∈l:=by rcases Tq.1 hm with e|e;exact absurd e hki;exact e
       have:=ihl hk2 (fun z hz=>hbd z (by simp[hz])) hml
       have hgk:(listed.setIfInBounds (f i) true).getD (f k) false=listed.getD (f k) false:=by rw[bX (by omega),if_neg (fun e=>hki (hinj i k hil (hbd k (by simp)) e))]
       cases hgd:listed.getD (f k) false with
       |true=>rw[Uk (by simp only[hgd];simp),Uk (by simp only[hgk,hgd];simp)];exact this
       |false=>rw[Uj (by simp only[hgd];simp),Uj (by simp only[hgk,hgd];simp),TY,TY,this]
    have:=hcount (TU ys.length) UV (fun k hk=>by simpa using hk) (by simpa using hil)
    omega
   ·rw[bX (by omega)];split
    ·rfl
    ·exact hpre j hj
   ·rw[bX (by omega),if_neg (hj' i hil)];exact hpost j hj hj'
  have hrun:∀needs,(∀z t,(z,t)∈needs→cvT E w t (a.eval z))→AWK P o needs y.x.nob y.x.out y.x.nw y.up y.kl→o.wp P a w (wpAny P .any ops Q (unl ops (listed.setIfInBounds (f i) true)) (listed.setIfInBounds (f i) true)) Q:=by
   intro needs hne hawn
   refine oV (fun _ _ _ h=>h.elim) (Oper.wp_mono ?_ (hawn cx E a w hI.ok hne hnob (fun l ob hm=>⟨hfresh l ob hm,AL hlab i y.x l ob hgi hm⟩)))
   rintro a' w' ⟨v,E',rfl,k1,k2,k3,k4,k4',k5⟩
   rw[Kg t3 hI.size]
   exact hnext v E' w' k1 k2 k3 k4 k4' k5
  have hguard:∀j dj (b:Bool),(ops[j]?).bind (·.dst)=some dj→dj<N→cvT E w (tB b) (a.eval (.tmp dj))→yielded ops a.tmps j=some b:=by
   intro j dj b hj hdj hcv
   have hb:a.tmps.getD dj undef= .bool b:=by simpa [cvT,cvV,cvC,rdD,Act.eval] using hcv
   have hs:dj<a.tmps.size:=by rw[hI.size];exact hdj
   have h2:a.tmps[dj]?=some (.bool b):=by
    rw[TA hs];simpa [Array.getD,hs] using hb
   unfold yielded
   cases ho':ops[j]? with
   |none=>simp[ho'] at hj
   |some o'=>simp[ho'] at hj;simp[hj,h2]
  unfold wpOp
  simp only[ho]
  rcases t5 with⟨hg,hawn⟩|⟨j,dj,b,zs,hg,hj,hdj,hnd,hawn⟩|⟨j,dj,b,t,hg,hj,hdj,hnd,hno,hout,hnw,hup,hkl⟩
  ·rw[if_pos (by simp[Region.wanted,hg])]
   exact .inl (hrun _ hneeds hawn)
  ·have hy:=hguard j dj b hj hdj (hneeds (.tmp dj) (tB b) (by rw[hnd];simp))
   rw[if_pos (by simp[Region.wanted,hg,hy])]
   exact .inl (hrun zs (fun z t hm=>hneeds z t (by rw[hnd];exact .tail _ hm)) hawn)
  ·have hy:=BZ (N:=N) (ops:=ops) (hneeds (.tmp dj) t (by rw[hnd];simp)) (by rw[hI.size];exact hdj) hj hno
   rw[if_neg (by simp[Region.wanted,hg,hy]),Kg t3 hI.size]
   exact hnext undef E w hI.ok (by rw[hup,hkl];exact .of_extW (.of_ext (Ext.refl E w))) (by rw[hout];exact⟨#[],rfl,trivial⟩) (by rw[hnw];simp) (by rw[hup];simp) (fun _ _ h=>.inl h)
end
end Go.AM
