/- A part. -/
import Derived.Test.YtcfhabdgiieejaaGreatE1
import Derived.Laws.BytesString
set_option linter.unusedVariables false
set_option linter.unusedSimpArgs false
set_option maxHeartbeats 4000000
open Nat renaming eq_of_beq_eq_true->aad,beq->d0,lt_of_lt_of_le->aay,le_refl->aah,le_of_ble_eq_true->aaF,zero_add->aaj,lt_or_ge->aat,zero_le->aap,le_trans->abd,lt_trichotomy->abm,ble->aar,add_zero->aaR
open List renaming getElem?_eq_getElem->v0,getElem?_eq_some_iff->aaa,mem_of_getElem?->aab,pairwise_iff_getElem->aaB,all_eq_true->aag,mem_append->aae,mem_cons->aaf,range->f5,all_cons->aaE,map_append->abe,length_append->aaz,eq_nil_of_length_eq_zero->aaQ,cons_append->aav,getElem?_of_mem->aal,map_cons->aau,getD_eq_getElem?_getD->abo,length_map->aaI,getElem?_append_left->aaq,getElem?_take->aaH,filter_cons_of_pos->abj,filter_cons_of_neg->abk,nodup_append->abl,findIdx?_eq_some_iff_getElem->aaW,length_cons->aak,any_eq_true->aax,mem_map->aba,getElem?_append_right->aao,exists_mem_of_ne_nil->abp,findIdx?_eq_none_iff->aa0,map_nil->aaJ,nodup_cons->aaY,filter_eq_nil_iff->abq,take_succ_cons->aaD,mem_singleton->abg,mapM_toArray->abn,filter_congr->abr,getElem?_map->aaN,nodup_range->abt,map_toArray->aaV,nil_append->abb
open Bool renaming false_ne_true->abc,and_eq_true->hV,or_eq_true->aan,or_eq_false_iff->aam,eq_false_iff->abf,not_eq_true'->aaw,not_true->abh
open Array renaming replicate->aai,getElem?_eq_getElem->aaA,getElem?_append_left->abi,toArray_toList->aaU
namespace Go.AM
open Go.RowKit
variable {t t' ty nt:TypeId} {g g' m gy:Bool} {k b N e nx n nx' sz by_ j l i p q:Nat} {a:Act} {r:Int} {E E':Go.AM.Env} {w w':World} {x y:Go.AM.Ob} {u:Value} {P:Program} {st s st2:Go.AM.St} {res:List Go.AM.RV} {rs:List ResultVar} {f:FuncId} {args:List Operand} {ps:String} {af:Array Edge} {gd:Option (Nat×Bool)} {tys:Array TypeId} {sl sl':Go.AM.Lab} {ts ts':List Go.AM.T} {eqs:Go.AM.Lac} {out out':Go.AM.T} {nw ob' nob:Go.AM.Laa} {cs:List Go.AM.C} {listed:Array Bool} {els zd:Go.AM.Lad}
def z6 (k:IntKind) (x y:Int):Int:=k.wrap (BitVec.ofInt k.bits x&&& BitVec.ofInt k.bits y).toNat
def bOr (k:IntKind) (x y:Int):Int:=k.wrap (BitVec.ofInt k.bits x|||BitVec.ofInt k.bits y).toNat
def Iy (k:IntKind) (x y:Int):Int:=k.wrap (BitVec.ofInt k.bits x^^^BitVec.ofInt k.bits y).toNat
def vU (k:IntKind) (x y:Int):Int:=k.wrap (BitVec.ofInt k.bits x&&& ~~~(BitVec.ofInt k.bits y)).toNat
def lX (k:IntKind) (x y:Int):Int:=k.wrap (x*2^(min y.toNat k.bits))
def Eb (k:IntKind) (x y:Int):Int:=x.fdiv (2^(min y.toNat k.bits))
def Tj (op:BinOp) (k:IntKind) (a b:Int):Option Int:=
 match op with
 | .and=>some (z6 k a b)
 | .or=>some (bOr k a b)
 | .xor=>some (Iy k a b)
 | .andNot=>some (vU k a b)
 |_=>none
def Yr (op:BinOp) (k:IntKind) (a b:Int):Option Int:=
 match op with
 | .shl=>some (lX k a b)
 | .shr=>some (Eb k a b)
 |_=>none
section
variable {P:Program} {N:Nat} {d:Tmp} {ty:TypeId} {ps:String} {af:Array Edge} {gd:Option (Nat×Bool)} {x y z:Operand} {sl:Lab} {ob:Laa} {nx:Nat}
theorem n_bit {op:BinOp} {k:IntKind} {a b:Int} (h:Tj op k a b=some r):
 AWN P ⟨some d,.binOp op t x y t',ty,ps,af,gd⟩ [(x,.v (.c (.d g (.i k a)))),(y,.v (.c (.d g' (.i k b))))] [] (.v (.c (.d false (.i k r)))) []:=
 cE λE ac w hn _=>by
  have h1:=iI (hn x _ (.head _))
  have h2:=iI (hn y _ (.tail _ (.head _)))
  cases op<;>simp only[Tj,Option.some.injEq,reduceCtorEq] at h<;>subst h<;>
   exact⟨_,by simp[execOp,h1,h2,eqGuard,binOp,Op.intBits];rfl,by simp[cvT,cvV,cvC,rdD,z6,bOr,Iy,vU]⟩
theorem n_sh {op:BinOp} {k k':IntKind} {a b:Int} (h0:0<=b) (h:Yr op k a b=some r):
 AWN P ⟨some d,.binOp op t x y t',ty,ps,af,gd⟩ [(x,.v (.c (.d g (.i k a)))),(y,.v (.c (.d g' (.i k' b))))] [] (.v (.c (.d false (.i k r)))) []:=
 cE λE ac w hn _=>by
  have h1:=iI (hn x _ (.head _))
  have h2:=iI (hn y _ (.tail _ (.head _)))
  have h0':¬b<0:=by omega
  cases op<;>simp only[Yr,Option.some.injEq,reduceCtorEq] at h<;>subst h<;>
   exact⟨_,by simp[execOp,h1,h2,eqGuard,binOp,Op.shift,h0'];rfl,by rfl⟩
theorem ib {op:BinOp} {k:IntKind} {a b:Int} (hx:opT sl x= .v (.c (.d g (.i k a)))) (hy:opT sl y= .v (.c (.d g' (.i k b)))) (hN:nlt d N=true) (h:Tj op k a b=some r):
 NS0 P N ⟨some d,.binOp op t x y t',ty,ps,af,gd⟩ sl ob nx d (.v (.c (.d false (.i k r)))) ⟨d,[(x,.v (.c (.d g (.i k a)))),(y,.v (.c (.d g' (.i k b))))],[],.v (.c (.d false (.i k r))),[]⟩:=dS (st:=⟨sl,ob,nx⟩) (n_bit h) rfl hN ⟨hx,hy,trivial⟩ trivial rfl
theorem Lc {op:BinOp} {k k':IntKind} {a b:Int} (h0:leB 0 b=true) (hx:opT sl x= .v (.c (.d g (.i k a)))) (hy:opT sl y= .v (.c (.d g' (.i k' b)))) (hN:nlt d N=true) (h:Yr op k a b=some r):
 NS0 P N ⟨some d,.binOp op t x y t',ty,ps,af,gd⟩ sl ob nx d (.v (.c (.d false (.i k r)))) ⟨d,[(x,.v (.c (.d g (.i k a)))),(y,.v (.c (.d g' (.i k' b))))],[],.v (.c (.d false (.i k r))),[]⟩:=dS (st:=⟨sl,ob,nx⟩) (n_sh (by simp_all) h) rfl hN ⟨hx,hy,trivial⟩ trivial rfl
theorem ishL {op:BinOp} {k k':IntKind} {a:Int} (hx:opT sl x= .v (.c (.d g (.i k a)))) (hy:opT sl y= .v (.c (.d g' (.i k' (b:Int))))) (hN:nlt d N=true) (h:Yr op k a b=some r):
 NS0 P N ⟨some d,.binOp op t x y t',ty,ps,af,gd⟩ sl ob nx d (.v (.c (.d false (.i k r)))) ⟨d,[(x,.v (.c (.d g (.i k a)))),(y,.v (.c (.d g' (.i k' (b:Int)))))],[],.v (.c (.d false (.i k r))),[]⟩:=dS (st:=⟨sl,ob,nx⟩) (n_sh oaa h) rfl hN ⟨hx,hy,trivial⟩ trivial rfl
end
def E0 (b c:Nat) (F:Nat->Prop):Env:={r:=λo=>if o=200 then some (b,c) else none,F:=F,G:=λ_=>False}
def E1 (b c:Nat) (F G:Nat->Prop):Env:={r:=λo=>if o=200 then some (b,c) else none,F:=λx=>F x\/G x,G:=G}
def TV (E:Env) (w:World):List T->Lae->Prop
 |[],[]=>True
 |t::ts,u::us=>cvT E w t u/\TV E w ts us
 |_,_=>False
structure FnW (P:Program) (f:FuncId) (x:Ob) (args:List T) (y:Ob) (res:List RV):Prop where
 enters:∀(vs:Array Value) (w:World),(callFunc f vs).run P w= .ok (.enter f vs) w
 calls:∀(F:Nat->Prop) (w:World) (vals:Array Value) (b c:Nat),(∀b,F b->b<w.heap.size)->b<w.heap.size->TabsIn w->(∀k∈wG,k≠b)->df (E0 b c F) w 200 x->TV (E0 b c F) w args vals.toList->
  Calls P f vals w λe w'=>∃v G bs,e= .returned v/\Im w w' (λk=>k=b)/\(∀k,G k->w.heap.size<=k/\k<w'.heap.size/\jv w' k)/\As w' G w.heap.size res v bs/\(bs.map (·.1)).Nodup/\df (E1 b c F G) w' 200 y
def C.free:C->Bool
 | .d _ _| .nil| .any| .fn _=>true
 |_=>false
def Ob.free:Ob->Bool
 | .var _ cs=>cs.all C.free
 | .row _ _ _ _ m=>m
 | .rown .. | .abs .. =>false
theorem Tq (hH:∀g b,E.H g b->E'.H g b) (hh:∀g b,E.H g b->w'.heap[b]?=w.heap[b]?):∀{c:C} {u:Value},c.free=true->cvC E w c u->cvC E' w' c u
 | .d g d,u,_,h=>cS (hh g) (hH g) d u h
 | .fn f,u,_,h=>h
 | .nil,u,_,h=>h
 | .any,u,_,_=>trivial
theorem If {E E':Env} {w w':World} (hH:∀g b,E.H g b->E'.H g b) (hh:∀g b,E.H g b->w'.heap[b]?=w.heap[b]?):∀{cs:List C} {us:Lae},cs.all C.free=true->CV E w cs us->CV E' w' cs us
 |[],[],_,_=>trivial
 |c::cs,u::us,hf,h=>by
  simp only[aaE,hV] at hf
  exact⟨Tq hH hh hf.1 h.1,If hH hh hf.2 h.2⟩
 |[],_::_,_,h=>h.elim
 |_::_,[],_,h=>h.elim
theorem Aq {o o':Nat} (hf:x.free=true) (hr:∀b c,E.r o=some (b,c)->E'.r o'=some (b,c)) (hH:∀g b,E.H g b->E'.H g b) (hh:∀g b,E.H g b->w'.heap[b]?=w.heap[b]?)
 (hb:∀b c,E.r o=some (b,c)->w'.heap[b]?=w.heap[b]?) (hF:∀b c,E.r o=some (b,c)->¬E.F b->¬E'.F b) (h:df E w o x):df E' w' o' x:=by
 cases x with
 |rown ty sz els g=>exact absurd hf abc
 |abs l y=>exact absurd hf abc
 |var ty cs=>
  obtain⟨b,c,arr,h1,h2,h3,h4⟩:=h
  exact⟨b,c,arr,hr b c h1,(hb b c h1).trans h2,If hH hh hf h3,hF b c h1 h4⟩
 |row ty sz els g m=>
  obtain⟨b,c,arr,h1,h2,h3,h4,h5,h6,h7,h8,h9⟩:=h
  have hm:m=true:=hf
  subst hm
  exact⟨b,c,arr,hr b c h1,(hb b c h1).trans h2,h3,h4,h5,h6,cT (hh g) (hH g) (hb b c h1) _ _ h7,λ_=>hF b c h1 (h8 rfl),λh=>by cases h⟩
def C.loc:C->C
 | .d _ x=>.d false x
 |c=>c
def Ob.loc:Ob->Ob
 | .var ty cs=>.var ty (cs.map C.loc)
 | .row ty sz els _ m=>.row ty sz els false m
 | .rown ty sz els _=>.rown ty sz els false
 | .abs l y=>.abs l y
theorem W3 {cx:Cx} (ok:dJ cx E w) {c:C} (h:cvC E w c u):cvC E w c.loc u:=by
 cases c with
 |d g x=>exact pj (g':=false) ok h (by simp)
 |_=>exact h
theorem SF {cx:Cx} {E:Env} {w:World} (ok:dJ cx E w):∀{cs:List C} {us:Lae},CV E w cs us->CV E w (cs.map C.loc) us
 |[],[],_=>trivial
 |c::cs,u::us,h=>⟨W3 ok h.1,SF ok h.2⟩
 |[],_::_,h=>h.elim
 |_::_,[],h=>h.elim
theorem HV {cx:Cx} (ok:dJ cx E w) {o:Nat} (hf:x.free=true) (h:df E w o x):df E w o x.loc:=by
 cases x with
 |rown ty sz els g=>exact absurd hf abc
 |abs l y=>exact absurd hf abc
 |var ty cs=>
  obtain⟨b,c,arr,h1,h2,h3,h4⟩:=h
  exact⟨b,c,arr,h1,h2,SF ok h3,h4⟩
 |row ty sz els g m=>
  obtain⟨b,c,arr,h1,h2,h3,h4,h5,h6,h7,h8,h9⟩:=h
  have hm:m=true:=hf
  subst hm
  refine⟨b,c,arr,h1,h2,h3,h4,h5,h6,?_,h8,λh=>by cases h⟩
  cases g with
  |false=>exact h7
  |true=>exact cT (λ_ _=>rfl) (λb hb=>ok.gf b hb) rfl _ _ h7
def xz:Nat->List T->Lab
 |_,[]=>[]
 |k,t::ts=>(k,t)::xz (k+1) ts
theorem Dv {E:Env} {w:World}:∀{ts:List T} {us:Lae} (k0:Nat),TV E w ts us->us.length=ts.length/\∀k,(k0<=k/\k<k0+ts.length->∃u,us[k-k0]?=some u/\cvT E w (gt (xz k0 ts) k) u)/\(¬(k0<=k/\k<k0+ts.length)->gt (xz k0 ts) k= .any)
 |[],[],k0,_=>⟨rfl,λk=>⟨λh=>by grind,λ_=>rfl⟩⟩
 |t::ts,u::us,k0,h=>by
  obtain⟨h1,h2⟩:=Dv (k0+1) h.2
  refine⟨by simp[h1],λk=>⟨λhk=>?_,λhk=>?_⟩⟩
  .by_cases e:k0=k
   .subst e;exact⟨u,by simp,by rw[xz,dR];exact h.1⟩
   obtain⟨v,k1,k2⟩:=(h2 k).1 (by grind)
   refine⟨v,?_,by rw[xz,c9 _ _ e];exact k2⟩
   grind
  simp at hk
  rw[xz,c9 _ _ oaa]
  grind
 |[],_::_,_,h=>h.elim
 |_::_,[],_,h=>h.elim
theorem KP {ob:Laa} {c:C} {r:RC} {ls:List Nat} (h:xF ob c=some (r,ls)):∀l∈ls,∃ty sz els,go ob l=some (.row ty sz els true true):=by
 cases c with
 |d g x=>cases x<;>(try cases g)<;>simp[xF] at h<;>obtain⟨rfl,rfl⟩:=h<;>simp
 |w o n=>
  simp only[xF] at h
  grind
 |nil=>simp[xF] at h;simp_all
 |_=>simp[xF] at h
theorem Hr {ob:Laa}:∀{cs:List C} {rs:List RC} {ls:List Nat},CM ob cs=some (rs,ls)->∀l∈ls,∃ty sz els,go ob l=some (.row ty sz els true true)
 |[],rs,ls,h=>by simp[CM] at h;simp_all
 |c::cs,rs,ls,h=>by
  simp only[CM] at h
  split at h
  .rename_i r l rs' ls' h1 h2
   simp at h;obtain⟨rfl,rfl⟩:=h
   intro x hx
   rcases aae.1 hx with hx|hx
   .exact KP h1 x hx
   exact Hr h2 x hx
  cases h
theorem TW {ob:Laa} {v:V} {r:RV} {ls:List Nat} (h:M9 ob v=some (r,ls)):∀l∈ls,∃ty sz els,go ob l=some (.row ty sz els true true):=by
 cases v with
 |c c=>
  simp only[M9] at h
  split at h
  .rename_i r l h1;simp at h;obtain⟨rfl,rfl⟩:=h;exact KP h1
  cases h
 |agg cs=>
  simp only[M9] at h
  split at h
  .rename_i r l h1;simp at h;obtain⟨rfl,rfl⟩:=h;exact Hr h1
  cases h
theorem Hs {ob:Laa}:∀{cs:List V} {rs:List RV} {ls:List Nat},xG ob cs=some (rs,ls)->∀l∈ls,∃ty sz els,go ob l=some (.row ty sz els true true)
 |[],rs,ls,h=>by simp[xG] at h;simp_all
 |c::cs,rs,ls,h=>by
  simp only[xG] at h
  split at h
  .rename_i r l rs' ls' h1 h2
   simp at h;obtain⟨rfl,rfl⟩:=h
   intro x hx
   rcases aae.1 hx with hx|hx
   .exact TW h1 x hx
   exact Hs h2 x hx
  cases h
theorem Xp {cx:Cx} (hR:Rel N cx E st a w) {fn:Func} (h:Fin P fn.results.toList res st):
 ∃v bs,(results fn a.tmps).run P w= .ok v w/\As w E.G cx.w0.heap.size res v bs/\(bs.map (·.1)).Nodup/\∀p∈bs,¬E.F p.1:=by
 obtain⟨vs,ls,h1,h2,h3⟩:=h
 obtain⟨us,k1,k2⟩:=xu hR h1
 obtain⟨bs,m1,m2,m3⟩:=Ex hR h2 k2
 have hnd:(bs.map (·.1)).Nodup:=by
  have hnl:=kK h3
  refine aaB.2 λi j hi hj hij he=>?_
  simp only[aaI] at hi hj
  obtain⟨p,p1,p2⟩:=m3 i ls[i] (v0 oaa)
  obtain⟨q,q1,q2⟩:=m3 j ls[j] (v0 oaa)
  rw[v0 hi] at p1
  rw[v0 hj] at q1
  cases p1;cases q1
  simp only[List.getElem_map] at he
  rcases hbi:bs[i] with⟨b1,c1⟩
  rcases hbj:bs[j] with⟨b2,c2⟩
  rw[hbi,hbj] at he
  rw[hbi] at p2;rw[hbj] at q2
  have hb:b1=b2:=he
  subst hb
  exact aaB.1 hnl i j oaa oaa hij (hR.ok.inj _ _ _ _ _ p2 q2)
 have hnF:∀p∈bs,¬E.F p.1:=by
  intro p hp
  obtain⟨i,hi,rfl⟩:=List.getElem_of_mem hp
  have hl:i<ls.length:=by omega
  obtain⟨q,q1,q2⟩:=m3 i ls[i] (v0 hl)
  rw[v0 hi] at q1;cases q1
  obtain⟨ty,sz,els,hg⟩:=Hs h2 ls[i] (List.getElem_mem hl)
  obtain⟨b,c,arr,r1,r2,r3,r4,r5,r6,r7,r8,r9⟩:=hR.obs _ _ hg
  rw[q2] at r1
  rw[Option.some.inj r1]
  exact r8 rfl
 have hm:(fn.results.mapM (nu a.tmps)).run P w= .ok us.toArray w:=by
  rw[<-aaU (xs:=fn.results),abn]
  simp only[Sem.run_map,k1]
  rfl
 have hres:results fn a.tmps=(fn.results.mapM (nu a.tmps))>>= λvs=>pure (if h:vs.size=1 then vs[0] else .tuple vs):=rfl
 have hlen:us.length=vs.length:=by
  have key:∀(vs:List V) (us:Lae),VV E w vs us->us.length=vs.length:=by
   intro vs
   induction vs with
   |nil=>intro us h;cases us with
    |nil=>rfl
    |cons _ _=>exact h.elim
   |cons v vs ih=>intro us h;cases us with
    |nil=>exact h.elim
    |cons u us=>simp[ih us h.2]
  exact key vs us k2
 have hlen2:us.length=res.length:=by
  have key:∀(rs:List RV) (us:Lae) (bs:Lac),Dq w E.G cx.w0.heap.size rs us bs->us.length=rs.length:=by
   intro rs
   induction rs with
   |nil=>intro us bs h;cases us with
    |nil=>rfl
    |cons _ _=>exact h.elim
   |cons v vs ih=>intro us bs h;cases us with
    |nil=>exact h.elim
    |cons u us=>obtain⟨b1,b2,_,_,h⟩:=h;grind
  exact key res us bs m1
 match res,us,m1,hlen2 with
 |[],[],m1,_=>exact⟨.tuple #[],bs,by simp_all,⟨#[],rfl,m1⟩,hnd,hnF⟩
 |[r],[u],m1,_=>
  obtain⟨b1,b2,rfl,h4,h5⟩:=m1
  have:b2=[]:=h5
  subst this
  exact⟨u,b1++[],by simp_all,by simpa [As] using h4,hnd,hnF⟩
 |r1::r2::rs,u1::u2::us,m1,_=>
  exact⟨.tuple (u1::u2::us).toArray,bs,by simp_all,⟨_,rfl,m1⟩,hnd,hnF⟩
theorem LJ {G G2:Nat->Prop} {base:Nat} (hG:∀b,G b->G2 b) {r:RC} {bs:Lac} (h:rcR w G base r u bs) (hn:∀p∈bs,¬G2 p.1):rcR w G2 base r u bs:=by
 cases r with
 |d x=>exact⟨h.1,cS (λ_ _=>rfl) hG x u h.2⟩
 |own ty sz els n=>
  obtain⟨b,c,arr,h1,h2,h3,h4,h5,h6,h7,h8,h9,h10⟩:=h
  exact⟨b,c,arr,h1,h2,h3,h4,h5,h6,h7,cT (λ_ _=>rfl) hG rfl _ _ h8,hn (b,c) (by rw[h1];simp),h10⟩
 |nil=>exact h
theorem HR {w:World} {G G2:Nat->Prop} {base:Nat} (hG:∀b,G b->G2 b):∀{rs:List RC} {us:Lae} {bs:Lac},GT w G base rs us bs->(∀p∈bs,¬G2 p.1)->GT w G2 base rs us bs
 |[],[],bs,h,_=>h
 |r::rs,u::us,bs,h,hn=>by
  obtain⟨b1,b2,rfl,h1,h2⟩:=h
  exact⟨b1,b2,rfl,LJ hG h1 (λp hp=>hn p (by simp[hp])),HR hG h2 (λp hp=>hn p (by simp[hp]))⟩
 |[],_::_,_,h,_=>h.elim
 |_::_,[],_,h,_=>h.elim
theorem LT {G G2:Nat->Prop} {base:Nat} (hG:∀b,G b->G2 b) {r:RV} {bs:Lac} (h:rvR w G base r u bs) (hn:∀p∈bs,¬G2 p.1):rvR w G2 base r u bs:=by
 cases r with
 |c r=>exact LJ hG h hn
 |agg rs=>obtain⟨arr,h1,h2⟩:=h;exact⟨arr,h1,HR hG h2 hn⟩
theorem Cu {w:World} {G G2:Nat->Prop} {base:Nat} (hG:∀b,G b->G2 b):∀{rs:List RV} {us:Lae} {bs:Lac},Dq w G base rs us bs->(∀p∈bs,¬G2 p.1)->Dq w G2 base rs us bs
 |[],[],bs,h,_=>h
 |r::rs,u::us,bs,h,hn=>by
  obtain⟨b1,b2,rfl,h1,h2⟩:=h
  exact⟨b1,b2,rfl,LT hG h1 (λp hp=>hn p (by simp[hp])),Cu hG h2 (λp hp=>hn p (by simp[hp]))⟩
 |[],_::_,_,h,_=>h.elim
 |_::_,[],_,h,_=>h.elim
theorem Ru {G G2:Nat->Prop} {base:Nat} (hG:∀b,G b->G2 b) {rs:List RV} {bs:Lac} (h:As w G base rs u bs) (hn:∀p∈bs,¬G2 p.1):As w G2 base rs u bs:=by
 match rs,h with
 |[],h=>obtain⟨arr,h1,h2⟩:=h;exact⟨arr,h1,Cu hG h2 hn⟩
 |[r],h=>exact LT hG h hn
 |_::_::_,h=>obtain⟨arr,h1,h2⟩:=h;exact⟨arr,h1,Cu hG h2 hn⟩
def Km (N:Nat) (P:Program) (rs:List ResultVar) (res:List RV) (y:Ob):Exit->St->Prop
 | .ret,s| .normal,s=>∃s',dQ N s s'/\Fin P rs res s'/\go s'.ob 200=some y
 |_,_=>False
instance {N:Nat} {P:Program} {rs:List ResultVar} {res:List RV} {y:Ob}:Clo N (Km N P rs res y):=⟨λe s m hw h=>by
 cases e<;>simp only[Km] at h ⊢<;>first|exact h|(obtain⟨s',h1,h2⟩:=h;exact⟨s',am hw h1,h2⟩)⟩
theorem ZR   {fn:Func} {c:Code}   {args:List T}   {sl0:Lab} (hf:P.funcs[f]?=some fn) (hb:fn.body=some c:=by exact rfl) (hnm:(fn.name== "runtime.NumGoroutine")=false:=by kernel_rfl) (hN:fn.ntmps=N) (hrs:fn.results.toList=rs:=by exact rfl)
 (ha:aar args.length N=true:=by exact rfl) (hfx:x.free=true:=by exact rfl) (hfy:y.free=true:=by exact rfl) (hs:xz 0 args=sl0:=by exact rfl) (h:AWC P N c ⟨sl0,[(200,x)],210⟩ (Km N P rs res y)):FnW P f x args y res:=by
 subst hs
 refine⟨λvs w=>by simp[callFunc,hf,hb];simp_all,λF w vals b cc hF hbl hT hTb hx hA=>?_⟩
 subst hrs
 refine calls_of_wp hf hb ?_
 obtain⟨h1,h2⟩:=Dv 0 hA
 have hle:args.length<=N:=aaF ha
 have hsz:vals.size=args.length:=by simpa using h1
 have hrv:rsv 200=true:=rfl
 have hrp:rsp 200=true:=rfl
 have hbF:¬F b:=by
  cases x with
  |rown ty sz els g=>exact absurd hfx abc
  |abs l y=>exact absurd hfx abc
  |var ty cs=>obtain⟨b',c',arr,h1,h2,h3,h4⟩:=hx;cases h1;exact h4
  |row ty sz els g m=>
   obtain⟨b',c',arr,h1,h2,h3,h4,h5,h6,h7,h8,h9⟩:=hx
   cases h1
   have hm:m=true:=hfx
   subst hm
   exact h8 rfl
 have hr0:∀o p,(E0 b cc F).r o=some p->o=200/\p=(b,cc):=λo p h=>by
  simp only[E0] at h
  simp_all
 have hR:Rel N ⟨w,λk=>k=b,(E0 b cc F).r,F,λ_=>False,⟨hT,hTb⟩,λ_=>False⟩ (E0 b cc F) ⟨xz 0 args,[(200,x)],210⟩ {tmps:=vals++aai (fn.ntmps-vals.size) undef,defers:=[]} w:=by
  refine⟨⟨hF,λ_ h=>h.elim,λ_ h=>h.elim,λo k k' h=>?_,λo o' k k' k'' h h'=>?_,rfl,rfl,rfl,aah _,λ_ _ _=>rfl,λ_ _ _ h=>h,λ_ h=>.inl h,λb h h'=>absurd (hF b h) (by grind),⟨λ_ _ h=>h.elim,λ_ _ _ h=>h.elim,λ_ h=>h.elim,λ_ h=>h.elim,λ_ h=>h.elim⟩⟩,λo p h=>?_,λo ob h=>?_,λk=>?_,rfl,by simp;omega,λ_ _ h=>h.elim⟩
  .grind
  .grind
  .grind
  .by_cases e:200=o
   .subst e;rw[cI] at h;grind
   rw[b7 _ _ e] at h;cases h
  by_cases hk:k<args.length
  .obtain⟨u,h3,h4⟩:=(h2 k).1 ⟨aap _,by omega⟩
   have:(vals++aai (fn.ntmps-vals.size) undef).getD k undef=u:=by
    have h5:vals[k]?=some u:=by simpa using h3
    have h6:(vals++aai (fn.ntmps-vals.size) undef)[k]?=some u:=by rw[abi oaa];exact h5
    simp[h6]
   grind
  have:=(h2 k).2 oaa
  show cvT _ w (gt (xz 0 args) k) _
  rw[this];trivial
 refine wp_mono (h _ _ _ w hR) ?_
 rintro e a' w' ⟨E',s',hR',hq⟩
 have fin:(∃s'',dQ N s' s''/\Fin P fn.results.toList res s''/\go s''.ob 200=some y)->
  a'.defers=[]/\∃v,(results fn a'.tmps).run P w'= .ok v w'/\∃v' G bs,Ending.returned v= .returned v'/\Im w w' (λk=>k=b)/\(∀k,G k->w.heap.size<=k/\k<w'.heap.size/\jv w' k)/\As w' G w.heap.size res v' bs/\(bs.map (·.1)).Nodup/\df (E1 b cc F G) w' 200 y:=by
  rintro⟨s'',hw,hfin,hgo⟩
  obtain⟨E'',hR''⟩:=hw _ _ _ _ hR'
  obtain⟨v,bs,k1,k2,k3,k4⟩:=Xp hR'' hfin
  have ok:=hR''.ok
  refine⟨hR''.dfr,v,k1,v,λk=>E''.F k/\w.heap.size<=k,bs,rfl,⟨ok.os,ok.tape,ok.output,ok.size,ok.block⟩,λk hk=>⟨hk.2,ok.fb k hk.1,ok.gc k hk.1 hk.2⟩,Ru (λk hk=>⟨ok.gf k hk,(ok.gn k hk).resolve_right id⟩) k2 (λp hp hg=>k4 p hp hg.1),k3,?_⟩
  refine Aq hfy (λk c hk=>?_) (λg k hk=>?_) (λ_ _ _=>rfl) (λ_ _ _=>rfl) (λk c hk hn hk'=>?_) (hR''.obs _ _ hgo)
  .have:=ok.pin 200 _ hrp hk
   exact this
  .cases g with
   |false=>
    rcases ok.ff k hk with h|h
    .exact .inl h
    exact .inr ⟨hk,h⟩
   |true=>exact⟨ok.gf k hk,(ok.gn k hk).resolve_right id⟩
  rcases hk' with h|h
  .have:=ok.pin 200 _ hrp hk
   grind
  grind
 cases e with
 |normal=>exact fin hq
 |ret=>exact fin hq
 |_=>exact hq.elim
def zv (nob:Laa) (o:Nat):C->Option (C×Lac)
 | .p l k=>bif d0 l o then some (.p 200 k,[]) else none
 | .w l n=>bif d0 l o then some (.w 200 n,[]) else match AS nob (.w l n) with
  |some (x,e)=>some (.d false x,e)
  |none=>none
 | .nil=>some (.nil,[])
 |c=>match AS nob c with
  |some (x,e)=>some (.d false x,e)
  |none=>none
def Lj (nob:Laa) (o:Nat):List C->Option (List C×Lac)
 |[]=>some ([],[])
 |c::cs=>match zv nob o c,Lj nob o cs with
  |some (x,e),some (xs,e')=>some (x::xs,e++e')
  |_,_=>none
def Z8 (nob:Laa) (o:Nat):T->Option (T×Lac)
 | .v (.c c)=>match zv nob o c with
  |some (x,e)=>some (.v (.c x),e)
  |none=>none
 | .v (.agg cs)=>match Lj nob o cs with
  |some (x,e)=>some (.v (.agg x),e)
  |none=>none
 |_=>none
def CU (nob:Laa) (o:Nat):List T->Option (List T×Lac)
 |[]=>some ([],[])
 |c::cs=>match Z8 nob o c,CU nob o cs with
  |some (x,e),some (xs,e')=>some (x::xs,e++e')
  |_,_=>none
section
variable {cx:Cx} {E:Env} {w:World} {nob:Laa} {o b c0:Nat} (ok:dJ cx E w) (hob:∀l x,go nob l=some x->df E w l x) (hr:E.r o=some (b,c0))
include ok hob hr
theorem Pf {c:C} {x:C} {e:Lac} (h:zv nob o c=some (x,e)) (he:Eqs e) (hc:cvC E w c u):cvC (E0 b c0 (mA E nob)) w x u:=by
 have gen:∀{c x e},(match AS nob c with|some (x,e)=>some (C.d false x,e)|none=>none)=some (x,e)->Eqs e->cvC E w c u->cvC (E0 b c0 (mA E nob)) w x u:=by
  intro c x e h he hc
  split at h
  .rename_i y e' h1
   simp at h;obtain⟨rfl,rfl⟩:=h
   exact Dx ok hob h1 he hc
  cases h
 cases c with
 |p l k=>
  simp only[zv] at h
  cases hb:d0 l o with
  |false=>simp_all
  |true=>
   rw[hb] at h;simp at h;obtain⟨rfl,rfl⟩:=h
   have:=aad hb;subst this
   obtain⟨b',c',h1,h2⟩:=hc
   rw[hr] at h1;cases h1
   exact⟨b,c0,by simp[E0],h2⟩
 |w l n=>
  simp only[zv] at h
  cases hb:d0 l o with
  |false=>grind
  |true=>
   rw[hb] at h;simp at h;obtain⟨rfl,rfl⟩:=h
   have:=aad hb;subst this
   obtain⟨b',c',h1,h2⟩:=hc
   rw[hr] at h1;cases h1
   exact⟨b,c0,by simp[E0],h2⟩
 |nil=>simp[zv] at h;obtain⟨rfl,rfl⟩:=h;exact hc
 |d g y=>exact gen (by simpa only[zv] using h) he hc
 |s o sz off len=>exact gen (by simpa only[zv] using h) he hc
 |e o sz i j=>exact gen (by simpa only[zv] using h) he hc
 |q g x j=>exact gen (by simpa only[zv] using h) he hc
 |fn f=>exact gen (by simpa only[zv] using h) he hc
 |any=>exact gen (by simpa only[zv] using h) he hc
 |r l x=>exact gen (by simpa only[zv] using h) he hc
 |z x=>exact gen (by simpa only[zv] using h) he hc
 |zq x j=>exact gen (by simpa only[zv] using h) he hc
 |wn l n=>exact gen (by simpa only[zv] using h) he hc
theorem Ll:∀{cs xs:List C} {e:Lac} {us:Lae},Lj nob o cs=some (xs,e)->Eqs e->CV E w cs us->CV (E0 b c0 (mA E nob)) w xs us
 |[],xs,e,us,h,he,hc=>by simp[Lj] at h;obtain⟨rfl,rfl⟩:=h;cases us with
  |nil=>trivial
  |cons _ _=>exact hc.elim
 |c::cs,xs,e,us,h,he,hc=>by
  simp only[Lj] at h
  split at h
  .rename_i x e1 xs' e2 h1 h2
   simp at h;obtain⟨rfl,rfl⟩:=h
   obtain⟨g1,g2⟩:=eR he
   cases us with
   |nil=>exact hc.elim
   |cons u us=>exact⟨Pf ok hob hr h1 g1 hc.1,Ll h2 g2 hc.2⟩
  cases h
theorem XF {t t':T} {e:Lac} (h:Z8 nob o t=some (t',e)) (he:Eqs e) (hc:cvT E w t u):cvT (E0 b c0 (mA E nob)) w t' u:=by
 unfold Z8 at h
 split at h
 .split at h
  .rename_i c x e' h1;simp at h;obtain⟨rfl,rfl⟩:=h;exact Pf ok hob hr h1 he hc
  cases h
 .split at h
  .rename_i cs x e' h1;simp at h;obtain⟨rfl,rfl⟩:=h
   obtain⟨arr,hu,hc⟩:=hc
   exact⟨arr,hu,Ll ok hob hr h1 he hc⟩
  cases h
 cases h
theorem Fa {a:Act}:∀{ts ts':List T} {e:Lac} {args:List Operand},CU nob o ts=some (ts',e)->Eqs e->ts.length=args.length->(∀x t,(x,t)∈args.zip ts->cvT E w t (a.eval x))->TV (E0 b c0 (mA E nob)) w ts' (args.map a.eval)
 |[],ts',e,args,h,he,hl,hn=>by
  simp[CU] at h;obtain⟨rfl,rfl⟩:=h
  cases args with
  |nil=>trivial
  |cons _ _=>simp at hl
 |t::ts,ts',e,args,h,he,hl,hn=>by
  simp only[CU] at h
  split at h
  .rename_i x e1 xs' e2 h1 h2
   simp at h;obtain⟨rfl,rfl⟩:=h
   obtain⟨g1,g2⟩:=eR he
   cases args with
   |nil=>simp at hl
   |cons y args=>exact⟨XF ok hob hr h1 g1 (hn y t (by simp)),Fa h2 g2 (by simp_all) (λx t hm=>hn x t (by simp[hm]))⟩
  cases h
end
theorem XV {d:Tmp} {ob:Laa} {o:Nat} {x0:Ob} 
 (hF:FnW P f x0.loc ts' y res) (ht:zx sl args=some ts) (ho:go ob o=some x0) (hfx:x0.free=true) (hfy:y.free=true) (ha:CU [] o ts=some (ts',eqs)) (he:Eqs eqs) (hi:EX nx res=some (out,nw,n)) (hw:Lw nx nw n=true) (hN:nlt d N=true):
 AWO P N ⟨some d,.call ⟨.value (.func f),args.toArray,tys⟩,ty,ps,af,gd⟩ ⟨sl,ob,nx⟩ ⟨(d,out)::sl,nw++(o,y)::ob,n⟩:=by
 intro cx E a w hR
 obtain⟨t1,t2⟩:=ub ht
 obtain⟨nob,hnob⟩:∃nob:Laa,nob=[]:=⟨_,rfl⟩
 rw[<-hnob] at ha
 have hob:∀l x,go nob l=some x->df E w l x:=λl x h=>by subst hnob;cases h
 have hx0:=hR.obs o x0 ho
 obtain⟨b,c0,hr,hbF⟩:∃b c0,E.r o=some (b,c0)/\¬E.F b:=by
  cases x0 with
  |rown ty sz els g=>exact absurd hfx abc
  |abs l y=>exact absurd hfx abc
  |var t cs=>obtain⟨b,c,arr,h1,h2,h3,h4⟩:=hx0;simp_all
  |row t sz els g m=>
   obtain⟨b,c,arr,h1,h2,h3,h4,h5,h6,h7,h8,h9⟩:=hx0
   have hm:m=true:=hfx
   simp_all
 have hnl:∀l x,go nob l=some x->l≠o:=λl x h=>by subst hnob;cases h
 have hbC:¬mA E nob b:=by
  rintro(h|⟨l,x,c,h1,h2⟩)
  .exact hbF h
  exact hnl l x h1 (hR.ok.inj _ _ _ _ _ h2 hr)
 have hFb:∀b,mA E nob b->b<w.heap.size:=by
  rintro b (h|⟨l,x,c,h1,h2⟩)
  .exact hR.ok.fb b h
  exact(hR.ok.rb l b c h2).1
 have hbs0:=(hR.ok.rb o b c0 hr).1
 have hA:=Fa (a:=a) hR.ok hob hr ha he t1 (λx t hm=>by have:=hR.op x;rwa [Lk.mem t2 x t hm] at this)
 have hX:df (E0 b c0 (mA E nob)) w 200 x0.loc:=by
  have hl:=HV hR.ok hfx hx0
  have hfl:x0.loc.free=true:=by
   cases x0 with
   |rown ty sz els g=>exact absurd hfx abc
   |abs l y=>exact absurd hfx abc
   |var t cs=>
    simp only[Ob.loc,Ob.free,List.all_map] at hfx ⊢
    refine aag.2 λc hc=>?_
    have:=aag.1 hfx c hc
    cases c<;>simp_all [C.loc,C.free]
   |row t sz els g m=>exact hfx
  have hnoG:∀E2:Env,(∀k,E.F k->E2.F k)->E2.r 200=some (b,c0)->¬E2.F b->df E2 w 200 x0.loc:=by
   intro E2 h1 h2 h3
   cases x0 with
   |rown ty sz els g=>exact absurd hfx abc
   |abs l y=>exact absurd hfx abc
   |var t cs=>
    obtain⟨b',c',arr,k1,k2,k3,k4⟩:=hl
    rw[hr] at k1;cases k1
    refine⟨b,c0,arr,h2,k2,?_,h3⟩
    have key:∀(cs:List C) (us:Lae),cs.all C.free=true->CV E w (cs.map C.loc) us->CV E2 w (cs.map C.loc) us:=by
     intro cs
     induction cs with
     |nil=>
      intro us _ h
      cases us with
      |nil=>trivial
      |cons _ _=>exact h.elim
     |cons c cs ih=>
      intro us hf h
      simp only[aaE,hV] at hf
      cases us with
      |nil=>exact h.elim
      |cons u us=>
       refine⟨?_,ih us hf.2 h.2⟩
       have h5:=h.1
       cases c with
       |d g y=>exact cS (λ_ _=>rfl) h1 _ _ h5
       |nil=>exact h5
       |fn f=>exact h5
       |any=>trivial
       |_=>simp[C.free] at hf
    exact key cs _ hfx k3
   |row t sz els g m=>
    obtain⟨b',c',arr,k1,k2,k3,k4,k5,k6,k7,k8,k9⟩:=hl
    rw[hr] at k1;cases k1
    have hm:m=true:=hfx
    subst hm
    exact⟨b,c0,arr,h2,k2,k3,k4,k5,k6,cT (λ_ _=>rfl) h1 rfl _ _ k7,λ_=>h3,λh=>by cases h⟩
  exact hnoG _ (λk hk=>.inl hk) (by simp[E0]) hbC
 have hc:=hF.calls (mA E nob) w (args.map a.eval).toArray b c0 hFb hbs0 hR.ok.tabs (hR.ok.ntab hr) hX oaa
 have hent:=hF.enters (args.map a.eval).toArray w
 unfold Oper.wp
 have hrun:(execOp a.eval ⟨some d,.call ⟨.value (.func f),args.toArray,tys⟩,ty,ps,af,gd⟩).run P w= .ok (.enter f (args.map a.eval).toArray) w:=by
  simp only[execOp,resolve,Act.eval,Deferred.ofValue,Sem.run_bind,Sem.run_pure,Result.andThen_ok,invoke]
  simpa using hent
 rw[hrun,Oper.upon_enter]
 refine hc.mono ?_
 rintro e w' ⟨v,G,bs,rfl,hpast,hG2,hres,hnd,hY⟩
 have hdom:∀l p,E.r l=some p->l<nx:=hR.dom
 have hbs:=JF hres
 have hnw:=Nw.mem (DD hw)
 have hlab:∀l,nx<=l->l<nx+bs.length->E.r l=none/\rsv l=false:=by
  have himp:=yZ (E:=⟨λo=>bs[o-nx]?,G,G,λ_ _=>False,λ_=>False,λ_=>False⟩) (λ_ h=>h) (λb _ h=>h) hi hres (λi p hi=>by simp_all)
  intro l h1 h2
  obtain⟨x,hx⟩:=himp.2.2.2 l h1 (by rw[himp.2.1];exact h2)
  have h3:=hnw.2 l x hx
  refine⟨?_,h3.2.2⟩
  cases hq:E.r l with
  |none=>rfl
  |some p=>grind
 let E':Env:=⟨λl=>if nx<=l/\l<nx+bs.length then bs[l-nx]? else E.r l,λk=>E.F k\/G k,λk=>E.G k\/G k,E.T,E.Z,E.n⟩
 have hsz:=hpast.size
 have hws:=hR.ok.size
 have hold:∀l p,E.r l=some p->E'.r l=some p:=λl p h=>by
  grind
 have hnew:∀l b c,E'.r l=some (b,c)->(nx<=l/\l<nx+bs.length/\bs[l-nx]?=some (b,c))\/(E.r l=some (b,c)):=by
  intro l b c h
  have h:(if nx<=l/\l<nx+bs.length then bs[l-nx]? else E.r l)=some (b,c):=h
  split at h
  .simp_all
  exact .inr h
 have hheap:∀k,k<w.heap.size->k≠b->w'.heap[k]?=w.heap[k]?:=λk hk hne=>hpast.block k hk hne
 have hHb:∀g k,E.H g k->k≠b/\k<w.heap.size:=λg k hk=>⟨λe=>by subst e;cases g;exact hbF hk;exact hbF (hR.ok.gf _ hk),hR.ok.hb hk⟩
 have hk:kQ E w E' w':=⟨hold,λg k h=>by cases g<;>exact .inl h,λg k h=>hheap k (hHb g k h).2 (hHb g k h).1,λl k h=>⟨h,hheap k (hR.ok.sf.tb l k h).1.1 (λe=>by subst e;exact(hR.ok.sf.tb l k h).2.2.1 o c0 hr)⟩,λk h=>⟨h,.of_eq (hheap k (hR.ok.sf.zb k h).1.2.1 (λe=>by subst e;exact(hR.ok.sf.zb k h).2.2.1 o c0 hr))⟩,rfl⟩
 have ok':dJ cx E' w':=by
  refine⟨λk h=>?_,λk h=>?_,λk h=>?_,λl k c h=>?_,λl l' k c c' h h'=>?_,by rw[hpast.os];exact hR.ok.os,by rw[hpast.tape];exact hR.ok.tape,by rw[hpast.output];exact hR.ok.output,by omega,λk h hW=>?_,λl p hv h=>?_,λk h=>?_,
   λk h h'=>h.elim (λh=>(hR.ok.gc k h h').of_eq (hheap k (hHb false k h).2 (hHb false k h).1)) (λh=>(hG2 k h).2.2),
   hR.ok.sf.turn hr rfl rfl (λk h=>h.elim .inl (λh=>.inr (hG2 k h).1)) (λl k c h=>by
    grind) hsz hheap⟩
  .rcases h with h|h
   .have:=hR.ok.fb k h;omega
   simp_all
  .rcases h with h|h
   .exact .inl (hR.ok.gf k h)
   grind
  .rcases h with h|h
   .exact hR.ok.gn k h
   grind
  .rcases hnew l k c h with⟨_,_,h⟩|h
   .grind
   have:=hR.ok.rb l k c h;grind
  .rcases hnew l k c h with⟨h1,h2,h3⟩|h3<;>rcases hnew l' k c' h' with⟨k1,k2,k3⟩|k3
   .have hi:l-nx<bs.length:=by omega
    have hj:l'-nx<bs.length:=by omega
    rcases abm (l-nx) (l'-nx) with hlt|heq|hlt
    .exfalso
     have:=aaB.1 hnd (l-nx) (l'-nx) (by simp_all) (by simp_all) hlt
     simp_all
    .omega
    exfalso
    have:=aaB.1 hnd (l'-nx) (l-nx) (by simp_all) (by simp_all) hlt
    simp_all
   .have h5:=hbs _ (aab h3);have h6:=hR.ok.rb l' k c' k3;omega
   .have h5:=hbs _ (aab k3);have h6:=hR.ok.rb l k c h3;omega
   exact hR.ok.inj l l' k c c' h3 k3
  .have hkb:k≠b:=λe=>by
    subst e
    rcases(hR.ok.rb o k c0 hr).2 with h'|h'
    .omega
    simp_all
   rw[hheap k oaa hkb];exact hR.ok.block k h hW
  .rcases hnew l p.1 p.2 h with⟨h1,h2,_⟩|h
   .rw[rN (hlab l h1 h2).2] at hv;cases hv
   exact hR.ok.pin l p hv h
  rcases h with h|h
  .exact hR.ok.ff k h
  grind
 have himp:=yZ (E:=E') (G:=G) (base:=w.heap.size) (λb h=>.inr h) (λb hb hng hF=>by
  rcases hF with h|h
  .have:=hR.ok.fb b h;omega
  simp_all) hi hres (λi p hi=>by
   have:i<bs.length:=(aaa.1 hi).1
   show(if nx<=nx+i/\nx+i<nx+bs.length then bs[nx+i-nx]? else E.r (nx+i))=some p
   simp_all)
 refine⟨E',ok',λl p h=>?_,λl x hl=>?_,λk=>?_,hR.dfr,by simpa [Act.put] using hR.size,λl k h=>aay (hR.td l k h) hnw.1⟩
 .rcases hnew l p.1 p.2 h with⟨h1,h2,_⟩|h
  .obtain⟨x,hx⟩:=himp.2.2.2 l h1 (by rw[himp.2.1];exact h2);grind
  grind
 .rcases Cc hl with h|h
  .exact(himp.2.2.1 l x h).1
  by_cases hlo:o=l
  .subst hlo
   rw[cI] at h;cases h
   refine Aq hfy (λk c h=>?_) (λg k h=>?_) (λ_ _ _=>rfl) (λ_ _ _=>rfl) (λk c h hn hh=>?_) hY
   .simp[E1] at h;grind
   .cases g with
    |false=>
     rcases h with h|h
     .rcases h with h|⟨l,x,c,h1,h2⟩
      .exact .inl h
      subst hnob;cases h1
     exact .inr h
    |true=>exact .inr h
   simp[E1] at h;grind
  rw[b7 _ _ hlo] at h
  exact gN hk (λk c h'=>hheap k (hR.ok.rb _ _ _ h').1 (λe=>hlo (by subst e;exact hR.ok.inj _ _ _ _ _ hr h'))) (λk c h' hn hh=>by
   rcases hh with hh|hh
   .exact hn hh
   have:=hG2 k hh;have:=(hR.ok.rb _ _ _ h').1;omega) (hR.obs l x h)
 rw[iv (by rw[hR.size];exact dt hN)]
 by_cases hdk:d=k
 .subst hdk;rw[dR,if_pos rfl];exact himp.1
 rw[c9 _ _ hdk,if_neg hdk];exact kF hk (hR.sl k)
theorem cw {d:Tmp} {ob:Laa} {o:Nat} {x0 x1:Ob} 
 (hF:FnW P f x1 ts' y res) (ht:zx sl args=some ts:=by exact rfl) (ho:go ob o=some x0:=by exact rfl) (hl:x0.loc=x1:=by exact rfl) (hfx:x0.free=true:=by exact rfl) (hfy:y.free=true:=by exact rfl) (ha:CU [] o ts=some (ts',eqs):=by exact rfl) (he:Eqs eqs:=by repeat (first|exact trivial|refine⟨by first|rfl|exact lm _|simp,?_⟩)) (hi:EX nx res=some (out,nw,n):=by exact rfl) (hw:Lw nx nw n=true:=by exact rfl) (hN:nlt d N=true:=by exact rfl) (hob:apO nw ((o,y)::ob)=some ob':=by exact rfl):
 AWO P N ⟨some d,.call ⟨.value (.func f),args.toArray,tys⟩,ty,ps,af,gd⟩ ⟨sl,ob,nx⟩ ⟨(d,out)::sl,ob',n⟩:=by
 subst hl
 rw[xy hob]
 exact XV hF ht ho hfx hfy ha he hi hw hN
theorem f8 {res':List RV} {vs:List V} {ls:List Nat} {y':Ob} (h:pf P s rs vs:=by repeat' (first|exact .nil|apply pf.cons|exact .tmp rfl|exact .cell rfl rfl rfl|exact .cell1 rfl rfl)) (he:xG s.ob vs=some (res',ls):=by exact rfl) (hn:oG ls=true:=by exact rfl) (hr:res'=res:=by first|rfl|simp) (hy:go s.ob 200=some y':=by exact rfl) (hyy:y'=y:=by first|rfl|simp):Km N P rs res y .ret s:=by
 subst hr;subst hyy;exact⟨s,vM s,⟨vs,ls,h,he,hn⟩,hy⟩
structure FnN (P:Program) (f:FuncId) (args:List AV) (ty:TypeId) (xs:List D):Prop where
 enters:∀(vs:Array Value) (w:World),(callFunc f vs).run P w= .ok (.enter f vs) w
 calls:∀(F:Nat->Prop) (w:World) (vals:Array Value),(∀b,F b->b<w.heap.size)->TabsIn w->AR w F args vals.toList->
  Calls P f vals w λe w'=>∃(b:Nat) (arr:Array Value) (G:Nat->Prop),e= .returned (.pointer (some ⟨b,0,none⟩))/\Im w w' (λ_=>False)/\(∀k,G k->w.heap.size<=k/\k<w'.heap.size/\jv w' k)/\w.heap.size<=b/\b<w'.heap.size/\¬G b/\w'.heap[b]?=some (.cells arr ty (0,0))/\DV w' (λk=>F k\/G k) xs arr.toList
def KM:C->Option D
 | .d _ x=>some x
 | .nil=>some (.l [])
 |_=>none
def Ac:List C->Option (List D)
 |[]=>some []
 |c::cs=>match KM c,Ac cs with
  |some x,some xs=>some (x::xs)
  |_,_=>none
theorem TA {cx:Cx} (ok:dJ cx E w) {c:C} {x:D} (h:KM c=some x) (hc:cvC E w c u):rdD w E.F x u:=by
 cases c with
 |d g y=>simp[KM] at h;subst h;exact pj (g':=false) ok hc (by simp)
 |nil=>
  simp[KM] at h;subst h
  have hu:u= .slice none 0 0:=hc
  subst hu
  rw[rdD];simp_all
 |_=>simp[KM] at h
theorem Hn {cx:Cx} {E:Env} {w:World} (ok:dJ cx E w):∀{cs:List C} {xs:List D} {us:Lae},Ac cs=some xs->CV E w cs us->DV w E.F xs us
 |[],xs,[],h,_=>by simp[Ac] at h;subst h;trivial
 |[],_,_::_,_,hc=>hc.elim
 |c::cs,xs,[],h,hc=>hc.elim
 |c::cs,xs,u::us,h,hc=>by
  simp only[Ac] at h
  split at h
  .rename_i x xs' h1 h2
   simp at h;subst h
   exact⟨TA ok h1 hc.1,Hn ok h2 hc.2⟩
  cases h
theorem Ii {w w':World} {F F':Nat->Prop} (hw:∀b,F b->w'.heap[b]?=w.heap[b]?) (hF:∀b,F b->F' b):∀{xs:List D} {us:Lae},DV w F xs us->DV w' F' xs us
 |[],[],_=>trivial
 |x::xs,u::us,h=>⟨cS hw hF x u h.1,Ii hw hF h.2⟩
 |[],_::_,h=>h.elim
 |_::_,[],h=>h.elim
def Ou (N:Nat) (rs:List ResultVar) (ty:TypeId) (xs:List D):Exit->St->Prop
 | .ret,s| .normal,s=>∃s' k o cs,dQ N s s'/\rs=[.tmp k]/\gt s'.sl k= .v (.c (.p o 0))/\go s'.ob o=some (.var ty cs)/\Ac cs=some xs/\rsv o=false
 |_,_=>False
instance {N:Nat} {rs:List ResultVar} {ty:TypeId} {xs:List D}:Clo N (Ou N rs ty xs):=⟨λe s m hw h=>by
 cases e<;>simp only[Ou] at h ⊢<;>first|exact h|(obtain⟨s',k,o,cs,h1,h2⟩:=h;exact⟨s',k,o,cs,am hw h1,h2⟩)⟩
theorem TX {xs xs':List D} {o:Nat} (h1:rs=[.tmp k]:=by exact rfl) (h2:gt s.sl k= .v (.c (.p o 0)):=by exact rfl) (h3:go s.ob o=some (.var ty cs):=by exact rfl) (h4:Ac cs=some xs':=by exact rfl) (h5:rsv o=false:=by exact rfl) (h6:xs'=xs:=by exact rfl):Ou N rs ty xs .ret s:=by
 subst h6;exact⟨s,k,o,cs,vM s,h1,h2,h3,h4,h5⟩
theorem ZQ   {fn:Func} {c:Code}  {args:List AV}   {xs:List D} {sl0:Lab} (hf:P.funcs[f]?=some fn) (hb:fn.body=some c:=by exact rfl) (hnm:(fn.name== "runtime.NumGoroutine")=false:=by kernel_rfl) (hN:fn.ntmps=N) (hrs:fn.results.toList=rs:=by exact rfl)
 (ha:aar args.length N=true:=by exact rfl) (hs:Ku 0 args=some sl0:=by exact rfl) (h:AWC P N c ⟨sl0,[],0⟩ (Ou N rs ty xs)):FnN P f args ty xs:=by
 rw[Is hs] at h
 refine⟨λvs w=>by simp[callFunc,hf,hb];simp_all,λF w vals hF hT hA=>?_⟩
 subst hrs
 refine calls_of_wp hf hb ?_
 let E:Env:={r:=λ_=>none,F:=F,G:=λ_=>False}
 obtain⟨h1,h2⟩:=D5 (E:=E) (F:=F) rfl 0 hA
 have hle:args.length<=N:=aaF ha
 have hsz:vals.size=args.length:=by simpa using h1
 have hR:Rel N ⟨w,λ_=>False,λ_=>none,F,λ_=>False,⟨hT,λ_ _ h=>h⟩,λ_=>False⟩ E ⟨xa 0 args,[],0⟩ {tmps:=vals++aai (fn.ntmps-vals.size) undef,defers:=[]} w:=by
  refine⟨⟨hF,λ_ h=>h.elim,λ_ h=>h.elim,(λ_ _ _ h=>by cases h),(λ_ _ _ _ _ h=>by cases h),rfl,rfl,rfl,aah _,λ_ _ _=>rfl,(λ_ _ _ h=>by cases h),λ_ h=>.inl h,λb h h'=>absurd (hF b h) (by simp_all),⟨λ_ _ h=>h.elim,λ_ _ _ h=>h.elim,λ_ h=>h.elim,λ_ h=>h.elim,λ_ h=>h.elim⟩⟩,(λ_ _ h=>by cases h),(λ_ _ h=>by cases h),λk=>?_,rfl,by simp;omega,λ_ _ h=>h.elim⟩
  by_cases hk:k<args.length
  .obtain⟨u,h3,h4⟩:=(h2 k).1 ⟨aap _,by omega⟩
   have:(vals++aai (fn.ntmps-vals.size) undef).getD k undef=u:=by
    have h5:vals[k]?=some u:=by simpa using h3
    have h6:(vals++aai (fn.ntmps-vals.size) undef)[k]?=some u:=by rw[abi oaa];exact h5
    simp[h6]
   simp_all
  have:=(h2 k).2 oaa
  show cvT E w (gt (xa 0 args) k) _
  rw[this];trivial
 refine wp_mono (h _ E _ w hR) ?_
 rintro e a' w' ⟨E',s',hR',hq⟩
 have fin:(∃s'' k o cs,dQ N s' s''/\fn.results.toList=[.tmp k]/\gt s''.sl k= .v (.c (.p o 0))/\go s''.ob o=some (.var ty cs)/\Ac cs=some xs/\rsv o=false)->
  a'.defers=[]/\∃v,(results fn a'.tmps).run P w'= .ok v w'/\∃(b:Nat) (arr:Array Value) (G:Nat->Prop),Ending.returned v= .returned (.pointer (some ⟨b,0,none⟩))/\Im w w' (λ_=>False)/\(∀k,G k->w.heap.size<=k/\k<w'.heap.size/\jv w' k)/\w.heap.size<=b/\b<w'.heap.size/\¬G b/\w'.heap[b]?=some (.cells arr ty (0,0))/\DV w' (λk=>F k\/G k) xs arr.toList:=by
  rintro⟨s'',k,o,cs,hw,hr1,hg,ho,hd,hv⟩
  obtain⟨E'',hR''⟩:=hw _ _ _ _ hR'
  have ok:=hR''.ok
  have hsl:=hR''.sl k
  rw[hg] at hsl
  obtain⟨b,cc,hrb,hu⟩:=hsl
  obtain⟨b',c',arr,k1,k2,k3,k4⟩:=hR''.obs o _ ho
  rw[hrb] at k1;cases k1
  have hfr:fn.results= #[.tmp k]:=by apply Array.ext';simpa using hr1
  refine⟨hR''.dfr,.pointer (some ⟨b,0,none⟩),?_,b,arr,λk=>E''.F k/\w.heap.size<=k,rfl,⟨ok.os,ok.tape,ok.output,ok.size,ok.block⟩,λk hk=>⟨hk.2,ok.fb k hk.1,ok.gc k hk.1 hk.2⟩,?_,(ok.rb o b cc hrb).1,λh=>k4 h.1,k2,?_⟩
  .have hres:results fn a'.tmps=(fn.results.mapM (nu a'.tmps))>>= λvs=>pure (if h:vs.size=1 then vs[0] else .tuple vs):=rfl
   rw[hres,hfr]
   simp[nu,hu]
  .rcases(ok.rb o b cc hrb).2 with h|h
   .exact h
   simp_all
  exact Ii (λ_ _=>rfl) (λk hk=>(ok.ff k hk).elim .inl (λh=>.inr ⟨hk,h⟩)) (Hn ok hd k3)
 cases e with
 |normal=>exact fin hq
 |ret=>exact fin hq
 |_=>exact hq.elim
theorem XM {d:Tmp} {ty0:TypeId} {avs:List AV} {xs:List D} 
 (hl:ts.length=args.length) (ha:H7 [] ts=some (avs,eqs)) (hF:FnN P f avs ty xs) (he:Eqs eqs):
 AWN P ⟨some d,.call ⟨.value (.func f),args.toArray,tys⟩,ty0,ps,af,gd⟩ (args.zip ts) [] (.v (.c (.p nx 0))) [(nx,.var ty (xs.map (ldC false)))]:=by
 intro cx E a w ok hn hb hfr
 have hA:=Mr ok (nob:=[]) (λl x h=>by cases h) ha he hl hn
 have hcF:∀b,mA E [] b->E.F b:=by
  rintro b (h|⟨l,x,c,h1,h2⟩)
  .exact h
  cases h1
 have hc:=hF.calls (mA E []) w (args.map a.eval).toArray (λb h=>ok.fb b (hcF b h)) ok.tabs oaa
 have hent:=hF.enters (args.map a.eval).toArray w
 unfold Oper.wp
 have hrun:(execOp a.eval ⟨some d,.call ⟨.value (.func f),args.toArray,tys⟩,ty0,ps,af,gd⟩).run P w= .ok (.enter f (args.map a.eval).toArray) w:=by
  simp only[execOp,resolve,Act.eval,Deferred.ofValue,Sem.run_bind,Sem.run_pure,Result.andThen_ok,invoke]
  simpa using hent
 rw[hrun,Oper.upon_enter]
 refine hc.mono ?_
 rintro e w' ⟨b,arr,G,rfl,hp,hG,hb1,hb2,hbG,hh,hD⟩
 obtain⟨hl0,hrv⟩:=hfr nx (.var ty (xs.map (ldC false))) (abg.2 rfl)
 obtain⟨ok',ext⟩:=Hq (nx:=nx) (bs:=[(b,0)]) ok hp hG (by simp_all) (by simp) (λl h1 h2=>by
  grind)
 have hr:(E.after nx [(b,0)] G).r nx=some (b,0):=by simp[Env.after]
 refine⟨.pointer (some ⟨b,0,none⟩),E.after nx [(b,0)] G,rfl,ok',ext,⟨b,0,hr,rfl⟩,λl ob hm=>?_,λl x hx=>?_⟩
 .simp at hm;obtain⟨rfl,rfl⟩:=hm
  refine⟨b,0,arr,hr,hh,?_,?_⟩
  .exact SL (E:=E.after l [(b,0)] G) (F:=λk=>E.F k\/G k) rfl (Ii (λ_ _=>rfl) (λk hk=>hk.elim (λh=>.inl (hcF k h)) .inr) hD)
  rintro(h|h)
  .have:=ok.fb b h;omega
  simp_all
 simp only[Env.after] at hx
 grind
theorem cn {d:Tmp} {ty0:TypeId} {ob:Laa} {avs:List AV} {xs:List D} 
 (hF:FnN P f avs ty xs) (ht:zx sl args=some ts) (ha:H7 [] ts=some (avs,eqs)) (he:Eqs eqs) (hc:ldO false xs=some cs) (hN:nlt d N=true) (hq:nxt nx=some nx'):
 NS P N ⟨some d,.call ⟨.value (.func f),args.toArray,tys⟩,ty0,ps,af,gd⟩ ⟨sl,ob,nx⟩ ⟨(d,.v (.c (.p nx 0)))::sl,(nx,.var ty cs)::ob,nx'⟩ ⟨d,args.zip ts,[],.v (.c (.p nx 0)),[(nx,.var ty cs)]⟩:=by
 obtain⟨h1,h2⟩:=ub ht
 rw[Jc hc]
 exact dS (st:=⟨sl,ob,nx⟩) (XM h1 ha hF he) rfl hN h2 trivial (pB hq)
def EZ (R:Nat->Prop):Env:={r:=λ_=>none,F:=λ_=>False,G:=λ_=>False,Z:=R}
structure YN (w w':World) (R:Nat->Prop):Prop where
 os:w'.os=w.os
 tape:w'.tape=w.tape
 output:w'.output=w.output
 size:w.heap.size<=w'.heap.size
 block:∀b,b<w.heap.size->¬R b->w'.heap[b]?=w.heap[b]?
 sim:∀b,R b->sD w w' b/\jv w' b
structure FnM (P:Program) (f:FuncId) (args:List T) (n:Int):Prop where
 enters:∀(vs:Array Value) (w:World),(callFunc f vs).run P w= .ok (.enter f vs) w
 calls:∀(R:Nat->Prop) (w:World) (vals:Array Value),(∀b,R b->b<w.heap.size/\jv w b)->TabsIn w->(∀k∈wG,¬R k)->TV (EZ R) w args vals.toList->
  Calls P f vals w λe w'=>e= .returned (.int .i64 n)/\YN w w' R
section
variable {P:Program} {N:Nat} {d:Tmp} {x y:Operand} {ty:TypeId} {ps:String} {af:Array Edge} {gd:Option (Nat×Bool)} {sl:Lab} {ob:Laa} {nx:Nat} {α:Type} {enc:α->List D}
theorem XQ {xs:Lad} [ht:ei P t e sz by_]:AWN P ⟨some d,.call ⟨.builtin .len,#[x],#[t]⟩,ty,ps,af,gd⟩ [(x,.v (.c (.z (.l xs))))] [] (tI xs.length) []:=
 cE λE ac w hn _=>by
  have h:=hn x _ (.head _)
  simp only[cvT,cvV,cvC,rsD] at h
  obtain⟨A,c,hu,_⟩:=h
  exact⟨_,by simp[execOp,resolve,invoke,builtin,hu,Builtin.len_,underlying,ht.u,goInt];rfl,by rfl⟩
theorem Ra {f off ft:Nat} {e:List D} [h:TyF P t f off ft]:AWN P ⟨some d,.fieldAddr t x f,ty,ps,af,gd⟩ [(x,.v (.c (.zq e j)))] [] (.v (.c (.zq e (j+off)))) []:=
 cE λE a w hn _=>by
  obtain⟨b,k,hu,hb,hl⟩:=hn x _ (.head _)
  exact⟨_,by simp[execOp,hu,tK];rfl,b,k,by simp_all,hb,hl⟩
theorem UP {e:List D} {xd:D} [ht:jw P t] (hc:e[j]?=some xd):AWN P ⟨some d,.load t x,ty,ps,af,gd⟩ [(x,.v (.c (.zq e j)))] [] (.v (.c (.z xd))) []:=
 cE λE a w hn _=>by
  obtain⟨b,k,hu,hb,hl⟩:=hn x _ (.head _)
  obtain⟨u,h1,h2⟩:=NG hl hc
  exact⟨u,by simp_all[execOp,nm],h2⟩
theorem LS {w:World} {F:Nat->Prop}:∀{e:List D} {b k:Nat},rsL w F e b k->∃us:Lae,us.length=e.length/\(∀(j:Nat) (u:Value),us[j]?=some u->w.cell? ⟨b,k+j,none⟩=some u)/\∀(j:Nat) (xd:D),e[j]?=some xd->∃u,us[j]?=some u/\rsD w F xd u
 |[],b,k,_=>⟨[],rfl,by simp,by simp⟩
 |x::e,b,k,h=>by
  rw[rsL] at h
  obtain⟨⟨u,hc,hu⟩,h⟩:=h
  obtain⟨us,h1,h2,h3⟩:=LS h
  refine⟨u::us,by simp[h1],λj v hj=>?_,λj xd hj=>?_⟩
  .grind
  grind
theorem Kl {E:Env} {w:World}:∀{e:List D} {us:Lae},us.length=e.length->(∀(j:Nat) (xd:D),e[j]?=some xd->∃u,us[j]?=some u/\rsD w E.Z xd u)->CV E w (e.map C.z) us
 |[],[],_,_=>trivial
 |x::e,u::us,hl,h=>by
  obtain⟨v,h1,h2⟩:=h 0 x rfl
  simp at h1;subst h1
  exact⟨h2,Kl (by simpa using hl) λj xd hj=>by obtain⟨v,h3,h4⟩:=h (j+1) xd (by simpa using hj);exact⟨v,by simpa using h3,h4⟩⟩
 |[],_::_,hl,_=>by simp at hl
 |_::_,[],hl,_=>by simp at hl
theorem Fw {w:World} {F:Nat->Prop}:∀{e:List D} {b k:Nat} (_:rsL w F e b k) (j n:Nat),rsL w F ((e.drop j).take n) b (k+j)
 |[],b,k,_,j,n=>by simp[rsL]
 |x::e,b,k,h,0,0=>by simp[rsL]
 |x::e,b,k,h,0,n+1=>by
  rw[rsL] at h
  have:=Fw h.2 0 n
  simp_all[List.drop_zero,aaD,aaR,rsL]
 |x::e,b,k,h,j+1,n=>by
  rw[rsL] at h
  have:=Fw h.2 j n
  grind
def zO:List D->Option (List C)
 |[]=>some []
 |x::xs=>match zO xs with|some r=>some (.z x::r)|none=>none
theorem Zr:∀{xs:List D} {cs:List C},zO xs=some cs->cs=xs.map C.z
 |[],cs,h=>by simp[zO] at h;subst h;rfl
 |x::xs,cs,h=>by
  simp only[zO] at h
  split at h
  .rename_i r h1;simp at h;subst h;rw[Zr h1];rfl
  cases h
def zPO (j n:Nat) (e:List D):Option (List C):=match Bo j n e with|some r=>zO r|none=>none
theorem Jr {e:List D} [ht:g7 P t n] (hj:zPO j n e=some cs):
 AWN P ⟨some d,.load t x,ty,ps,af,gd⟩ [(x,.v (.c (.zq e j)))] [] (.v (.agg cs)) []:=
 cE λE a w hn _=>by
  simp only[zPO] at hj
  split at hj
  .rename_i r h1
   obtain⟨rfl,hle⟩:=Bp h1
   rw[Zr hj]
   obtain⟨b,k,hu,hb,hl⟩:=hn x _ (.head _)
   obtain⟨us,k1,k2,k3⟩:=LS (Fw hl j n)
   have hlen:us.length=n:=by rw[k1];simp;omega
   exact⟨.agg us.toArray,by simp[execOp,hu,sX hlen k2],us.toArray,rfl,by grind[Kl]⟩
  cases hj
theorem lz {xs:List α} [ei P t e sz by_] (hx:opT sl x= .v (.c (.z (.l (xs.map enc))))) (hN:nlt d N=true):
 NS0 P N ⟨some d,.call ⟨.builtin .len,#[x],#[t]⟩,ty,ps,af,gd⟩ sl ob nx d (tI xs.length) ⟨d,[(x,.v (.c (.z (.l (xs.map enc)))))],[],tI xs.length,[]⟩:=by
 have:=dS (st:=⟨sl,ob,nx⟩) (XQ (P:=P) (d:=d) (ty:=ty) (ps:=ps) (af:=af) (gd:=gd) (t:=t) (xs:=xs.map enc) (x:=x)) rfl hN ⟨hx,trivial⟩ trivial rfl
 simp_all
theorem fz {f off ft:Nat} {e:List D} {j':Nat} [TyF P t f off ft] (hx:opT sl x= .v (.c (.zq e j))) (hN:nlt d N=true) (hk:j+off=j'):NS0 P N ⟨some d,.fieldAddr t x f,ty,ps,af,gd⟩ sl ob nx d (.v (.c (.zq e j'))) ⟨d,[(x,.v (.c (.zq e j)))],[],.v (.c (.zq e j')),[]⟩:=by
 subst hk;exact dS (st:=⟨sl,ob,nx⟩) Ra rfl hN ⟨hx,trivial⟩ trivial rfl
theorem oz {e:List D} {xd:D} [jw P t] (hx:opT sl x= .v (.c (.zq e j))) (hN:nlt d N=true) (hc:e[j]?=some xd):
 NS0 P N ⟨some d,.load t x,ty,ps,af,gd⟩ sl ob nx d (.v (.c (.z xd))) ⟨d,[(x,.v (.c (.zq e j)))],[],.v (.c (.z xd)),[]⟩:=dS (st:=⟨sl,ob,nx⟩) (UP hc) rfl hN ⟨hx,trivial⟩ trivial rfl
theorem oza {e:List D} [g7 P t n] (hx:opT sl x= .v (.c (.zq e j))) (hN:nlt d N=true) (hc:zPO j n e=some cs):
 NS0 P N ⟨some d,.load t x,ty,ps,af,gd⟩ sl ob nx d (.v (.agg cs)) ⟨d,[(x,.v (.c (.zq e j)))],[],.v (.agg cs),[]⟩:=dS (st:=⟨sl,ob,nx⟩) (Jr hc) rfl hN ⟨hx,trivial⟩ trivial rfl
def zK:D->C->Bool
 | .i k _,.d _ (.i k' _)=>k==k'
 | .b _,.d _ (.b _)=>true
 | .str _,.d _ (.str _)=>true
 |_,_=>false
theorem Vt {cx:Cx} (hR:Rel N cx E st a w) (hp:YN w w' E.Z):Rel N cx E st a w':=by
 have hz:∀b,E.Z b->¬E.F b:=λb h=>(hR.ok.sf.zb b h).2.1
 have hHn:∀g b,E.H g b->¬E.Z b:=λg b h hb=>by cases g;exact hz b hb h;exact hz b hb (hR.ok.gf b h)
 have hrn:∀o b c,E.r o=some (b,c)->¬E.Z b:=λo b c h hb=>(hR.ok.sf.zb b hb).2.2.1 o c h
 have htn:∀l b,E.T l b->¬E.Z b:=λl b h hb=>by have h1:=(hR.ok.sf.tb l b h).1.2;have h2:=(hR.ok.sf.zb b hb).1.1;omega
 have hk:kQ E w E w':=⟨λ_ _ h=>h,λ_ _ h=>h,λg b h=>hp.block b (hR.ok.hb h) (hHn g b h),λl b h=>⟨h,hp.block b (hR.ok.sf.tb l b h).1.1 (htn l b h)⟩,λb h=>⟨h,(hp.sim b h).1⟩,rfl⟩
 have hsz:=hp.size
 refine⟨⟨λb h=>by have:=hR.ok.fb b h;omega,hR.ok.gf,hR.ok.gn,λo b c h=>⟨by have:=(hR.ok.rb o b c h).1;omega,(hR.ok.rb o b c h).2⟩,hR.ok.inj,hp.os.trans hR.ok.os,hp.tape.trans hR.ok.tape,hp.output.trans hR.ok.output,by have:=hR.ok.size;omega,λb h hW=>?_,hR.ok.pin,hR.ok.ff,λb h h'=>(hR.ok.gc b h h').of_eq (hp.block b (hR.ok.fb b h) (hHn false b h)),?_⟩,hR.dom,λo x h=>?_,λk=>kF hk (hR.sl k),hR.dfr,hR.size,hR.td⟩
 .rw[hp.block b (by have:=hR.ok.size;omega) (λhz=>hW (hR.ok.sf.zb b hz).1.2.2)];exact hR.ok.block b h hW
 .refine⟨λl b h=>?_,hR.ok.sf.tt,λb h=>?_,λb h=>?_,hR.ok.sf.ze⟩
  .obtain⟨h1,h2,h3,h4⟩:=hR.ok.sf.tb l b h
   exact⟨⟨by omega,h1.2⟩,h2,h3,h4.of_eq (hp.block b h1.1 (htn l b h))⟩
  .obtain⟨h1,h2,h3,h4⟩:=hR.ok.sf.zc b h
   refine⟨⟨h1.1,by omega,h1.2.2⟩,h2,h3,?_⟩
   by_cases hb:E.Z b
   .exact(hp.sim b hb).2
   exact h4.of_eq (hp.block b h1.2.1 hb)
  refine(hR.ok.sf.zs b h).trans ?_
  by_cases hb:E.Z b
  .exact(hp.sim b hb).1
  exact .of_eq (hp.block b (hR.ok.sf.zc b h).1.2.1 hb)
 exact gN hk (λb c h'=>hp.block b (hR.ok.rb o b c h').1 (hrn o b c h')) (λ_ _ _ h=>h) (hR.obs o x h)
theorem B4 {arr:Array Value} {ty':TypeId} {fz:Nat×Nat} (h:w.heap[b]?=some (.cells arr ty' fz)):w.cell? ⟨b,k,none⟩=arr[k]?:=by
 simp[World.cell?,h]
theorem J3 {vt:TypeId} {arr:Array Value} {fz:Nat×Nat} [ht:TyN P t 1] (hu:u.cells= #[u]) (h1:u.oneCell'=true) (hh:w.heap[b]?=some (.cells arr vt fz)) (hf:fz=(0,0)\/arr.size<=fz.1) (hk:k<arr.size):
 (Instr.storeAt t (.pointer (some ⟨b,k,none⟩)) u).run P w= .ok () (w.setRow b (arr.setIfInBounds k u)):=by
 obtain⟨i,hi,hn⟩:=ht.n
 have hadd:(⟨b,k,none⟩:Addr).add 0=⟨b,k,none⟩:=by unfold Addr.add;split<;>simp_all
 have hcell:w.cell? ⟨b,k,none⟩=some arr[k]:=by simp[World.cell?,hh,hk]
 have hfro:w.frozen? ⟨b,k,none⟩=false:=by
  rcases hf with rfl|hf
  .grind[World.frozen?]
  grind[World.frozen?]
 have hst:(store ((⟨b,k,none⟩:Addr).add 0) u).run P w= .ok () (w.setRow b (arr.setIfInBounds k u)):=by
  rw[hadd,run_store P w _ u _ h1,hcell]
  simp[hfro,setCell_eq_setRow w b k arr vt fz u hh]
 simp_all[Instr.storeAt,Instr.sureAddr,storeVar,eW,storeCells]
theorem stz {e:List D} {xd:D} {c:C} [ht:TyN P t 1] (hx:opT sl x= .v (.c (.zq e j))) (hy:opT sl y= .v (.c c)) (hc:e[j]?=some xd) (hl:zK xd c=true):AWO P N ⟨none,.store t x y,ty,ps,af,gd⟩ ⟨sl,ob,nx⟩ ⟨sl,ob,nx⟩:=by
 intro cx E a w hR
 have h1:=hR.op x;rw[hx] at h1
 have h2:=hR.op y;rw[hy] at h2
 obtain⟨b,k,hu,hb,hrs⟩:=h1
 obtain⟨u,hcell,hud⟩:=NG hrs hc
 have hsim:NU u (a.eval y)/\(a.eval y).cells= #[a.eval y]/\(a.eval y).oneCell'=true:=by
  cases xd with
  |i kd n=>
   cases c with
   |d g z=>
    cases z with
    |i kd' n'=>
     simp[zK] at hl;subst hl
     have h2:a.eval y= .int kd n':=by simpa [cvT,cvV,cvC,rdD] using h2
     rw[rsD] at hud
     obtain⟨m,rfl⟩:=hud
     rw[h2];exact⟨.inr (.inl ⟨_,_,_,rfl,rfl⟩),rfl,rfl⟩
    |_=>grind[zK]
   |_=>grind[zK]
  |b n=>
   cases c with
   |d g z=>
    cases z with
    |b n'=>
     have h2:a.eval y= .bool n':=by simpa [cvT,cvV,cvC,rdD] using h2
     rw[rsD] at hud
     obtain⟨m,rfl⟩:=hud
     rw[h2];exact⟨.inr (.inr (.inl ⟨_,_,rfl,rfl⟩)),rfl,rfl⟩
    |_=>grind[zK]
   |_=>grind[zK]
  |str n=>
   cases c with
   |d g z=>
    cases z with
    |str n'=>
     have h2:a.eval y= .string n':=by simpa [cvT,cvV,cvC,rdD] using h2
     rw[rsD] at hud
     obtain⟨m,rfl⟩:=hud
     rw[h2];exact⟨.inr (.inr (.inr ⟨_,_,rfl,rfl⟩)),rfl,rfl⟩
    |_=>grind[zK]
   |_=>grind[zK]
  |l xs=>simp_all[zK]
  |k A n c'=>simp_all[zK]
 obtain⟨hs1,hs2,hs3⟩:=hsim
 obtain⟨arr,vt,fz,hh,hfz⟩:=(hR.ok.sf.zb b hb).2.2.2
 have hlt:k+j<arr.size:=by
  rw[B4 hh] at hcell
  rcases aat (k+j) arr.size with h|h
  .exact h
  simp_all
 have hrun:=J3 (P:=P) (t:=t) (b:=b) (k:=k+j) (u:=a.eval y) (w:=w) hs2 hs3 hh hfz hlt
 unfold Oper.wp
 simp only[execOp,hu,Sem.run_bind,hrun,Result.andThen_ok,Sem.run_pure,Oper.upon_skip,Act.put]
 refine⟨E,Vt hR ⟨rfl,rfl,rfl,by simp,λk' _ hk'=>d5 _ _ _ _ (λe=>hk' (e▸hb)),λb' hb'=>?_⟩⟩
 by_cases hbb:b'=b
 .subst hbb
  have hsr:(w.setRow b' (arr.setIfInBounds (k+j) (a.eval y))).heap[b']?=some (.cells (arr.setIfInBounds (k+j) (a.eval y)) vt fz):=setRow_heap w b' arr _ vt fz hh
  refine⟨λi v hv=>?_,_,_,_,hsr,by simp_all⟩
  rw[B4 hh] at hv hcell
  rw[B4 hsr]
  by_cases hi:i=k+j
  .simp_all
  refine⟨v,?_,.inl rfl⟩
  grind
 exact⟨.of_eq (d5 _ _ _ _ hbb),(hR.ok.sf.zb b' hb').2.2.2.of_eq (d5 _ _ _ _ hbb)⟩
def C.hasR (l:Nat):C->Bool
 | .r k _=>d0 k l
 |_=>false
def KY (l:Nat):List C->Bool
 |[]=>false
 |c::cs=>c.hasR l||KY l cs
def V.hasR (l:Nat):V->Bool
 | .c x=>x.hasR l
 | .agg xs=>KY l xs
def IP (l:Nat):List V->Bool
 |[]=>false
 |v::vs=>v.hasR l||IP l vs
def T.hasR (l:Nat):T->Bool
 | .v x=>x.hasR l
 | .tup xs=>IP l xs
 | .any=>false
def CL (l:Nat):Lab->Option Lab
 |[]=>some []
 |(k,t)::r=>match CL l r with
  |some r'=>match t.hasR l with
   |true=>some ((k,.any)::r')
   |false=>some ((k,t)::r')
  |none=>none
theorem KO {l:Nat}:∀{sl sl':Lab},CL l sl=some sl'->∀k,gt sl' k= .any\/(gt sl' k=gt sl k/\(gt sl k).hasR l=false)
 |[],sl',h,k=>by simp[CL] at h;subst h;exact .inl rfl
 |(j,t)::r,sl',h,k=>by
  simp only[CL] at h
  split at h
  .rename_i r' h1
   have ih:=KO h1 k
   split at h
   .simp at h;subst h
    by_cases hj:j=k
    .subst hj;left;rw[dR]
    rw[c9 _ _ hj,c9 _ _ hj];exact ih
   rename_i ht
   simp at h;subst h
   by_cases hj:j=k
   .subst hj;right;rw[dR,dR];exact⟨rfl,ht⟩
   rw[c9 _ _ hj,c9 _ _ hj];exact ih
  cases h
structure KeepsR (l:Nat) (E:Env) (w:World) (E':Env) (w':World):Prop where
 r:∀o x,E.r o=some x->E'.r o=some x
 H:∀g b,E.H g b->E'.H g b
 heap:∀g b,E.H g b->w'.heap[b]?=w.heap[b]?
 T:∀k b,k≠l->E.T k b->E'.T k b/\w'.heap[b]?=w.heap[b]?
 Z:∀b,E.Z b->E'.Z b/\sD w w' b
 n:E'.n=E.n
end
def xm (ns:List Int):ByteArray:=ns.foldl (λr n=>r.push (UInt8.ofNat n.toNat)) ByteArray.empty
section
variable {P:Program} {N:Nat} {d:Tmp} {x y:Operand} {ty:TypeId} {ps:String} {af:Array Edge} {gd:Option (Nat×Bool)} {sl:Lab} {ob:Laa} {nx:Nat}
theorem PN {w:World} {F:Nat->Prop} {b:Nat}:∀{xs:List Int} {k:Nat},rdLL w F (xs.map eU8) b k->∀(j:Nat) (u:Value),(xs.map (Value.int .u8))[j]?=some u->w.cell? ⟨b,k+j,none⟩=some u
 |[],k,_,j,u,h=>by simp at h
 |n::xs,k,h,j,u,hj=>by
  rw[aau,rdLL] at h
  obtain⟨h1,h2⟩:=h
  simp only[eU8,rdL,rdD] at h1
  obtain⟨⟨v,hc,rfl⟩,_⟩:=h1
  cases j with
  |zero=>simp_all
  |succ j=>
   have:=PN h2 j u (by simp_all)
   rwa [show k+(eU8 n).length+j=k+(j+1) from by simp[eU8];omega] at this
theorem Yc {F:Nat->Prop} {A:Option Addr} {xs:List Int} {c:Nat} (h:xs=[]\/∃b off,A=some ⟨b,off,none⟩/\rdLL w F (xs.map eU8) b off):(Conv.bytesToString (.slice A xs.length c)).run P w= .ok (.string (xm xs)) w:=by
 cases A with
 |none=>
  rcases h with rfl|⟨b,off,h,_⟩
  .rfl
  cases h
 |some a=>
  refine run_bytesToString w a xs.length c xs ?_
  rcases h with rfl|⟨b,off,h,hr⟩
  .rfl
  cases h
  have:=lc (P:=P) (b:=b) (k:=off) (w:=w) (xs.map (Value.int .u8)) 0 #[] (λj u hj=>by rw[aaj];exact PN hr j u hj)
  simpa [loadCells] using this
theorem n_bts {e:TypeId} {xs:List Int} [hs:ei P t e sz by_] [he:TyU P e (.int .u8)] [hd:TyU P t' .string]:
 AWN P ⟨some d,.convert t t' x,ty,ps,af,gd⟩ [(x,.v (.c (.d g (.l (xs.map eU8)))))] [] (tS (xm xs)) []:=
 cE λE ac w hn _=>by
  have h:=hn x _ (.head _)
  simp only[cvT,cvV,cvC,rdD] at h
  obtain⟨A,c,hu,_,h⟩:=h
  rw[aaI] at hu
  refine⟨.string (xm xs),?_,by rfl⟩
  have:=Yc (P:=P) (w:=w) (F:=E.H g) (A:=A) (xs:=xs) (c:=c) (by
   grind)
  simp only[execOp,hu,Sem.run_bind,run_convert_bytes_string w t t' e A xs.length c hs.u he.h hd.h,this,Result.andThen_ok,Sem.run_pure]
theorem bt1 {e:TypeId} {xs:List Int} [ei P t e sz by_] [TyU P e (.int .u8)] [TyU P t' .string] (hx:opT sl x= .v (.c (.d g (.l (xs.map eU8))))) (hN:nlt d N=true):
 NS0 P N ⟨some d,.convert t t' x,ty,ps,af,gd⟩ sl ob nx d (tS (xm xs)) ⟨d,[(x,.v (.c (.d g (.l (xs.map eU8)))))],[],tS (xm xs),[]⟩:=dS (st:=⟨sl,ob,nx⟩) n_bts rfl hN ⟨hx,trivial⟩ trivial rfl
end
structure Qq (up:Laa) (E:Env) (w:World) (E':Env) (w':World):Prop where
 r:∀o x,E.r o=some x->E'.r o=some x
 F:∀b,E.F b->E'.F b
 G:∀b,E.G b->E'.G b
 F':∀b,E'.F b->E.F b\/w.heap.size<=b
 heap:∀b,b<w.heap.size->(∀l ob c,(l,ob)∈up->E.r l≠some (b,c))->w'.heap[b]?=w.heap[b]?
 own:∀l ob b c,(l,ob)∈up->E.r l=some (b,c)->¬E.F b
 T:E'.T=E.T
 Z:E'.Z=E.Z
 n:E'.n=E.n
theorem Qq.of_ext (x:Ext E w E' w'):Qq [] E w E' w':=⟨x.r,x.F,x.G,x.F',λb h _=>x.heap b h,λ_ _ _ _ h=>(by cases h),x.T,x.Z,x.n⟩
theorem kQ.of_extW {cx:Cx} {up:Laa} (ok:dJ cx E w) (x:Qq up E w E' w'):kQ E w E' w':=by
 have hF:∀b,E.F b->w'.heap[b]?=w.heap[b]?:=λb h=>x.heap b (ok.fb b h) (λl ob c hm hr=>x.own l ob b c hm hr h)
 refine⟨x.r,λg b h=>by cases g;exact x.F b h;exact x.G b h,λg b h=>by cases g;exact hF b h;exact hF b (ok.gf b h),λl b h=>⟨by rw[x.T];exact h,x.heap b (ok.sf.tb l b h).1.1 (λl' ob c _ hr=>(ok.sf.tb l b h).2.2.1 l' c hr)⟩,
  λb h=>⟨by rw[x.Z];exact h,.of_eq (x.heap b (ok.sf.zb b h).1.2.1 (λl' ob c _ hr=>(ok.sf.zb b h).2.2.1 l' c hr))⟩,x.n⟩
def AWX (P:Program) (o:Oper) (needs:List (Operand×T)) (nob:Laa) (out:T) (nw up:Laa):Prop:=
 ∀(cx:Cx) (E:Env) (a:Act) (w:World),dJ cx E w->(∀x t,(x,t)∈needs->cvT E w t (a.eval x))->(∀l ob,(l,ob)∈nob->df E w l ob)->
  (∀l ob,(l,ob)∈nw->E.r l=none/\rsv l=false)->
  o.wp P a w (λa' w'=>∃v E',a'=a.put o.dst v/\dJ cx E' w'/\Qq up E w E' w'/\cvT E' w' out v/\(∀l ob,(l,ob)∈nw->df E' w' l ob)/\(∀l ob,(l,ob)∈up->df E' w' l ob)/\
   (∀l x,E'.r l=some x->E.r l=some x\/∃ob,(l,ob)∈nw)) (λ_ _ _=>False)
theorem Ea {o:Oper} {needs:List (Operand×T)} (h:AWN P o needs nob out nw):AWX P o needs nob out nw []:=by
 intro cx E a w ok hn hb hf
 refine Oper.wp_mono ?_ (h cx E a w ok hn hb hf)
 rintro a' w' ⟨v,E',h1,h2,h3,h4,h5,h6⟩
 exact⟨v,E',h1,h2,.of_ext h3,h4,h5,(λ_ _ h=>by cases h),h6⟩
theorem Qv {d:Tmp} {o:Nat} {x0:Ob} 
 (hF:FnW P f x0.loc ts' y res) (hlen:ts.length=args.length) (hfx:x0.free=true) (hfy:y.free=true) (ha:CU [] o ts=some (ts',eqs)) (he:Eqs eqs) (hi:EX nx res=some (out,nw,n)):
 AWX P ⟨some d,.call ⟨.value (.func f),args.toArray,tys⟩,ty,ps,af,gd⟩ (args.zip ts) [(o,x0)] out nw [(o,y)]:=by
 intro cx E a w ok hn hb hfr
 obtain⟨nob,hnob⟩:∃nob:Laa,nob=[]:=⟨_,rfl⟩
 rw[<-hnob] at ha
 have hob:∀l x,go nob l=some x->df E w l x:=λl x h=>by subst hnob;cases h
 have hx0:=hb o x0 (by simp)
 obtain⟨b,c0,hr,hbF⟩:∃b c0,E.r o=some (b,c0)/\¬E.F b:=by
  cases x0 with
  |rown ty sz els g=>exact absurd hfx abc
  |abs l y=>exact absurd hfx abc
  |var t cs=>obtain⟨b,c,arr,h1,h2,h3,h4⟩:=hx0;simp_all
  |row t sz els g m=>
   obtain⟨b,c,arr,h1,h2,h3,h4,h5,h6,h7,h8,h9⟩:=hx0
   have hm:m=true:=hfx
   simp_all
 have hbC:¬mA E nob b:=by
  rintro(h|⟨l,x,c,h1,h2⟩)
  .exact hbF h
  subst hnob;cases h1
 have hFb:∀b,mA E nob b->b<w.heap.size:=by
  rintro b (h|⟨l,x,c,h1,h2⟩)
  .exact ok.fb b h
  exact(ok.rb l b c h2).1
 have hbs0:=(ok.rb o b c0 hr).1
 have hA:=Fa (a:=a) ok hob hr ha he hlen hn
 have hX:df (E0 b c0 (mA E nob)) w 200 x0.loc:=by
  have hl:=HV ok hfx hx0
  have hnoG:∀E2:Env,(∀k,E.F k->E2.F k)->E2.r 200=some (b,c0)->¬E2.F b->df E2 w 200 x0.loc:=by
   intro E2 h1 h2 h3
   cases x0 with
   |rown ty sz els g=>exact absurd hfx abc
   |abs l y=>exact absurd hfx abc
   |var t cs=>
    obtain⟨b',c',arr,k1,k2,k3,k4⟩:=hl
    rw[hr] at k1;cases k1
    refine⟨b,c0,arr,h2,k2,?_,h3⟩
    have key:∀(cs:List C) (us:Lae),cs.all C.free=true->CV E w (cs.map C.loc) us->CV E2 w (cs.map C.loc) us:=by
     intro cs
     induction cs with
     |nil=>
      intro us _ h
      cases us with
      |nil=>trivial
      |cons _ _=>exact h.elim
     |cons c cs ih=>
      intro us hf h
      simp only[aaE,hV] at hf
      cases us with
      |nil=>exact h.elim
      |cons u us=>
       refine⟨?_,ih us hf.2 h.2⟩
       have h5:=h.1
       cases c with
       |d g y=>exact cS (λ_ _=>rfl) h1 _ _ h5
       |nil=>exact h5
       |fn f=>exact h5
       |any=>trivial
       |_=>simp[C.free] at hf
    exact key cs _ hfx k3
   |row t sz els g m=>
    obtain⟨b',c',arr,k1,k2,k3,k4,k5,k6,k7,k8,k9⟩:=hl
    rw[hr] at k1;cases k1
    have hm:m=true:=hfx
    subst hm
    exact⟨b,c0,arr,h2,k2,k3,k4,k5,k6,cT (λ_ _=>rfl) h1 rfl _ _ k7,λ_=>h3,λh=>by cases h⟩
  exact hnoG _ (λk hk=>.inl hk) (by simp[E0]) hbC
 have hc:=hF.calls (mA E nob) w (args.map a.eval).toArray b c0 hFb hbs0 ok.tabs (ok.ntab hr) hX oaa
 have hent:=hF.enters (args.map a.eval).toArray w
 unfold Oper.wp
 have hrun:(execOp a.eval ⟨some d,.call ⟨.value (.func f),args.toArray,tys⟩,ty,ps,af,gd⟩).run P w= .ok (.enter f (args.map a.eval).toArray) w:=by
  simp only[execOp,resolve,Act.eval,Deferred.ofValue,Sem.run_bind,Sem.run_pure,Result.andThen_ok,invoke]
  simpa using hent
 rw[hrun,Oper.upon_enter]
 refine hc.mono ?_
 rintro e w' ⟨v,G,bs,rfl,hpast,hG2,hres,hnd,hY⟩
 have hbs:=JF hres
 have hlab:∀l,nx<=l->l<nx+bs.length->E.r l=none/\rsv l=false:=by
  have himp:=yZ (E:=⟨λo=>bs[o-nx]?,G,G,λ_ _=>False,λ_=>False,λ_=>False⟩) (λ_ h=>h) (λb _ h=>h) hi hres (λi p hi=>by simp_all)
  intro l h1 h2
  obtain⟨x,hx⟩:=himp.2.2.2 l h1 (by rw[himp.2.1];exact h2)
  exact hfr l x hx
 let E':Env:=⟨λl=>if nx<=l/\l<nx+bs.length then bs[l-nx]? else E.r l,λk=>E.F k\/G k,λk=>E.G k\/G k,E.T,E.Z,E.n⟩
 have hsz:=hpast.size
 have hws:=ok.size
 have hold:∀l p,E.r l=some p->E'.r l=some p:=λl p h=>by
  grind
 have hnew:∀l b c,E'.r l=some (b,c)->(nx<=l/\l<nx+bs.length/\bs[l-nx]?=some (b,c))\/(E.r l=some (b,c)):=by
  intro l b c h
  have h:(if nx<=l/\l<nx+bs.length then bs[l-nx]? else E.r l)=some (b,c):=h
  split at h
  .simp_all
  exact .inr h
 have hheap:∀k,k<w.heap.size->k≠b->w'.heap[k]?=w.heap[k]?:=λk hk hne=>hpast.block k hk hne
 have hHb:∀g k,E.H g k->k≠b/\k<w.heap.size:=λg k hk=>⟨λe=>by subst e;cases g;exact hbF hk;exact hbF (ok.gf _ hk),ok.hb hk⟩
 have ok':dJ cx E' w':=by
  refine⟨λk h=>?_,λk h=>?_,λk h=>?_,λl k c h=>?_,λl l' k c c' h h'=>?_,by rw[hpast.os];exact ok.os,by rw[hpast.tape];exact ok.tape,by rw[hpast.output];exact ok.output,by omega,λk h hW=>?_,λl p hv h=>?_,λk h=>?_,
   λk h h'=>h.elim (λh=>(ok.gc k h h').of_eq (hheap k (hHb false k h).2 (hHb false k h).1)) (λh=>(hG2 k h).2.2),
   ok.sf.turn hr rfl rfl (λk h=>h.elim .inl (λh=>.inr (hG2 k h).1)) (λl k c h=>by
    grind) hsz hheap⟩
  .rcases h with h|h
   .have:=ok.fb k h;omega
   simp_all
  .rcases h with h|h
   .exact .inl (ok.gf k h)
   grind
  .rcases h with h|h
   .exact ok.gn k h
   grind
  .rcases hnew l k c h with⟨_,_,h⟩|h
   .grind
   have:=ok.rb l k c h;grind
  .rcases hnew l k c h with⟨h1,h2,h3⟩|h3<;>rcases hnew l' k c' h' with⟨k1,k2,k3⟩|k3
   .have hi:l-nx<bs.length:=by omega
    have hj:l'-nx<bs.length:=by omega
    rcases abm (l-nx) (l'-nx) with hlt|heq|hlt
    .exfalso
     have:=aaB.1 hnd (l-nx) (l'-nx) (by simp_all) (by simp_all) hlt
     simp_all
    .omega
    exfalso
    have:=aaB.1 hnd (l'-nx) (l-nx) (by simp_all) (by simp_all) hlt
    simp_all
   .have h5:=hbs _ (aab h3);have h6:=ok.rb l' k c' k3;omega
   .have h5:=hbs _ (aab k3);have h6:=ok.rb l k c h3;omega
   exact ok.inj l l' k c c' h3 k3
  .have hkb:k≠b:=λe=>by
    subst e
    rcases(ok.rb o k c0 hr).2 with h'|h'
    .omega
    simp_all
   rw[hheap k oaa hkb];exact ok.block k h hW
  .rcases hnew l p.1 p.2 h with⟨h1,h2,_⟩|h
   .rw[rN (hlab l h1 h2).2] at hv;cases hv
   exact ok.pin l p hv h
  rcases h with h|h
  .exact ok.ff k h
  grind
 have himp:=yZ (E:=E') (G:=G) (base:=w.heap.size) (λb h=>.inr h) (λb hb hng hF=>by
  rcases hF with h|h
  .have:=ok.fb b h;omega
  simp_all) hi hres (λi p hi=>by
   grind)
 refine⟨v,E',rfl,ok',⟨hold,λk h=>.inl h,λk h=>.inl h,λk h=>h.elim .inl (λh=>.inr (hG2 k h).1),λk hk hne=>hheap k hk (λe=>by simp_all),λl ob k c hm hl=>?_,rfl,rfl,rfl⟩,himp.1,λl x hm=>(himp.2.2.1 l x hm).1,λl x hm=>?_,λl p h=>?_⟩
 .grind
 .simp at hm;obtain⟨rfl,rfl⟩:=hm
  refine Aq hfy (λk c h=>?_) (λg k h=>?_) (λ_ _ _=>rfl) (λ_ _ _=>rfl) (λk c h hn hh=>?_) hY
  .simp[E1] at h;grind
  .cases g with
   |false=>
    rcases h with h|h
    .rcases h with h|⟨l,x,c,h1,h2⟩
     .exact .inl h
     subst hnob;cases h1
    exact .inr h
   |true=>exact .inr h
  simp[E1] at h;grind
 rcases hnew l p.1 p.2 h with⟨h1,h2,_⟩|h
 .obtain⟨x,hx⟩:=himp.2.2.2 l h1 (by rw[himp.2.1];exact h2);grind
 simp_all
def Ob.hasO (o:Nat):Ob->Bool
 | .var _ cs=>CO o cs
 | .row _ _ _ _ _=>false
 | .rown _ _ _ _=>false
 | .abs _ _=>false
structure tA (up:Laa) (kl:Option Nat) (E:Env) (w:World) (E':Env) (w':World):Prop where
 r:∀o x,kl≠some o->E.r o=some x->E'.r o=some x
 F:∀b,E.F b->E'.F b
 G:∀b,E.G b->E'.G b
 F':∀b,E'.F b->E.F b\/w.heap.size<=b\/∀l c,kl≠some l->E.r l≠some (b,c)
 heap:∀b,b<w.heap.size->(∀l ob c,(l,ob)∈up->E.r l≠some (b,c))->(∀l c,kl=some l->E.r l≠some (b,c))->w'.heap[b]?=w.heap[b]?
 own:∀l ob b c,(l,ob)∈up->E.r l=some (b,c)->¬E.F b
 ownk:∀l b c,kl=some l->E.r l=some (b,c)->¬E.F b
 T:E'.T=E.T
 Z:E'.Z=E.Z
 n:E'.n=E.n
theorem tA.of_extW {up:Laa} (x:Qq up E w E' w'):tA up none E w E' w':=
 ⟨λo y _ h=>x.r o y h,x.F,x.G,(λb h=>(x.F' b h).elim .inl (λh=>.inr (.inl h))),λb h h' _=>x.heap b h h',x.own,(λ_ _ _ h=>by cases h),x.T,x.Z,x.n⟩
section
variable {cx:Cx} {E E':Env} {w w':World} {up:Laa} {kl:Option Nat}
theorem tA.hF (ok:dJ cx E w) (x:tA up kl E w E' w') (b:Nat) (h:E.F b):w'.heap[b]?=w.heap[b]?:=
 x.heap b (ok.fb b h) (λl ob c hm hr=>x.own l ob b c hm hr h) (λl c hl hr=>x.ownk l b c hl hr h)
theorem tA.hH (ok:dJ cx E w) (x:tA up kl E w E' w') (g:Bool) (b:Nat) (h:E.H g b):w'.heap[b]?=w.heap[b]?:=by
 cases g
 .exact x.hF ok b h
 exact x.hF ok b (ok.gf b h)
theorem tA.H (x:tA up kl E w E' w') (g:Bool) (b:Nat) (h:E.H g b):E'.H g b:=by
 cases g
 .exact x.F b h
 exact x.G b h
theorem tA.hT (ok:dJ cx E w) (x:tA up kl E w E' w') (l b:Nat) (h:E.T l b):E'.T l b/\w'.heap[b]?=w.heap[b]?:=
 ⟨by rw[x.T];exact h,x.heap b (ok.sf.tb l b h).1.1 (λl' ob c _ hr=>(ok.sf.tb l b h).2.2.1 l' c hr) (λl' c _ hr=>(ok.sf.tb l b h).2.2.1 l' c hr)⟩
theorem tA.hZ (ok:dJ cx E w) (x:tA up kl E w E' w') (b:Nat) (h:E.Z b):E'.Z b/\sD w w' b:=
 ⟨by rw[x.Z];exact h,.of_eq (x.heap b (ok.sf.zb b h).1.2.1 (λl' ob c _ hr=>(ok.sf.zb b h).2.2.1 l' c hr) (λl' c _ hr=>(ok.sf.zb b h).2.2.1 l' c hr))⟩
theorem tA.keeps (ok:dJ cx E w) (x:tA up none E w E' w'):kQ E w E' w':=⟨λo y h=>x.r o y (by simp) h,x.H,x.hH ok,x.hT ok,x.hZ ok,x.n⟩
theorem tA.but {o:Nat} (ok:dJ cx E w) (x:tA up (some o) E w E' w'):nO o E w E' w':=⟨λl y hl h=>x.r l y (by grind) h,x.H,x.hH ok,x.hT ok,x.hZ ok,λl _=>by rw[x.n]⟩
theorem El (ok:dJ cx E w) (x:tA up kl E w E' w') {t:T} (hf:∀o,kl=some o->t.has o=false) (h:cvT E w t u):cvT E' w' t u:=by
 cases kl with
 |none=>exact kF (x.keeps ok) h
 |some o=>exact IC (x.but ok) (hf o rfl) h
theorem WO (ok:dJ cx E w) (x:tA up kl E w E' w') {us:Lae} (hf:∀o,kl=some o->CO o cs=false) (h:CV E w cs us):CV E' w' cs us:=by
 cases kl with
 |none=>exact sC (x.keeps ok) h
 |some o=>exact MK (x.but ok) (hf o rfl) h
theorem NC (ok:dJ cx E w) (x:tA up kl E w E' w') {o:Nat} {ob:Ob} (hno:∀ob',(o,ob')∉up) (hk:kl≠some o) (hh:∀d,kl=some d->ob.hasO d=false) (h:df E w o ob):df E' w' o ob:=by
 have hb:∀b c,E.r o=some (b,c)->w'.heap[b]?=w.heap[b]?:=λb c hr=>
  x.heap b (ok.rb o b c hr).1 (λl ob' c' hm hr'=>by have:=ok.inj _ _ _ _ _ hr hr';simp_all) (λl c' hl hr'=>by have:=ok.inj _ _ _ _ _ hr hr';simp_all)
 have hF:∀b c,E.r o=some (b,c)->¬E.F b->¬E'.F b:=λb c hr hn hF=>(x.F' b hF).elim hn (λh=>h.elim (λhb=>by have:=(ok.rb o b c hr).1;omega) (λhb=>hb o c hk hr))
 cases ob with
 |var ty cs=>
  obtain⟨b,c,arr,hr,hh',hc,hf⟩:=h
  exact⟨b,c,arr,x.r _ _ hk hr,(hb b c hr).trans hh',WO ok x hh hc,hF b c hr hf⟩
 |row ty sz els g m=>
  obtain⟨b,c,arr,hr,hh',h1,h2,h3,h4,h5,h6,h7⟩:=h
  exact⟨b,c,arr,x.r _ _ hk hr,(hb b c hr).trans hh',h1,h2,h3,h4,cT (x.hH ok g) (x.H g) (hb b c hr) _ _ h5,λhm=>hF b c hr (h6 hm),λhm=>⟨x.H false b (h7 hm).1,λhg=>x.H true b ((h7 hm).2 hg)⟩⟩
 |rown ty sz els g=>
  rcases h with⟨h0,h1⟩|⟨h0,b,c,arr,hr,hh',h1,h2,h3,h4,h5,h6⟩
  .exact .inl ⟨by rw[x.n];exact h0,h1⟩
  exact .inr ⟨by rw[x.n];exact h0,b,c,arr,x.r _ _ hk hr,(hb b c hr).trans hh',h1,h2,h3,h4,cT (x.hH ok g) (x.H g) (hb b c hr) _ _ h5,hF b c hr h6⟩
 |abs l y=>
  rcases h with⟨h0,h1⟩|⟨h0,b,c,hr,h1,h2⟩
  .exact .inl ⟨by rw[x.n];exact h0,h1⟩
  exact .inr ⟨by rw[x.n];exact h0,b,c,x.r _ _ hk hr,y.st _ _ _ _ _ _ h1 (λk hk=>(x.hT ok l k hk).1) (hb b c hr) (λk hk=>(x.hT ok l k hk).2),hF b c hr h2⟩
end
def AWK (P:Program) (o:Oper) (needs:List (Operand×T)) (nob:Laa) (out:T) (nw up:Laa) (kl:Option Nat):Prop:=
 ∀(cx:Cx) (E:Env) (a:Act) (w:World),dJ cx E w->(∀x t,(x,t)∈needs->cvT E w t (a.eval x))->(∀l ob,(l,ob)∈nob->df E w l ob)->
  (∀l ob,(l,ob)∈nw->E.r l=none/\rsv l=false)->
  o.wp P a w (λa' w'=>∃v E',a'=a.put o.dst v/\dJ cx E' w'/\tA up kl E w E' w'/\cvT E' w' out v/\(∀l ob,(l,ob)∈nw->df E' w' l ob)/\(∀l ob,(l,ob)∈up->df E' w' l ob)/\
   (∀l x,E'.r l=some x->E.r l=some x\/∃ob,(l,ob)∈nw)) (λ_ _ _=>False)
theorem vT {o:Oper} {needs:List (Operand×T)} {up:Laa} (h:AWX P o needs nob out nw up):AWK P o needs nob out nw up none:=by
 intro cx E a w ok hn hb hf
 refine Oper.wp_mono ?_ (h cx E a w ok hn hb hf)
 rintro a' w' ⟨v,E',h1,h2,h3,h4,h5,h6,h7⟩
 exact⟨v,E',h1,h2,.of_extW h3,h4,h5,h6,h7⟩
def W0 (d:Nat) (ob0:Laa) (k:Nat):Bool:=d0 k d||match go ob0 k with
 |some x=>x.hasO d
 |none=>false
def Er (d:Nat) (ob0:Laa):Laa->Option Laa
 |[]=>some []
 |(k,x)::r=>match Er d ob0 r,W0 d ob0 k with
  |some r',true=>some r'
  |some r',false=>some ((k,x)::r')
  |none,_=>none
def E6:List Nat->Lab->Laa->Option (Lab×Laa)
 |[],sl,ob=>some (sl,ob)
 |d::ds,sl,ob=>match oF d sl,Er d ob ob with
  |some sl',some ob'=>E6 ds sl' ob'
  |_,_=>none
theorem Es {d:Nat} {ob0:Laa}:∀{ob ob':Laa},Er d ob0 ob=some ob'->∀{l:Nat} {x:Ob},go ob' l=some x->W0 d ob0 l=false/\go ob l=some x
 |[],ob',h,l,x,hl=>by simp[Er] at h;subst h;cases hl
 |(k,y)::r,ob',h,l,x,hl=>by
  simp only[Er] at h
  cases h1:Er d ob0 r with
  |none=>simp_all
  |some r'=>
   cases h2:W0 d ob0 k with
   |true=>
    simp[h1,h2] at h;subst h
    have ih:=Es h1 hl
    refine⟨ih.1,?_⟩
    rw[b7 _ _ (λe=>by simp_all)];exact ih.2
   |false=>
    simp[h1,h2] at h;subst h
    by_cases hk:k=l
    .subst hk;rw[cI] at hl ⊢;simp_all
    rw[b7 _ _ hk] at hl ⊢;exact Es h1 hl
theorem Lg:∀{ds:List Nat} {sl sl':Lab} {ob ob':Laa},E6 ds sl ob=some (sl',ob')->
 (∀k,gt sl' k= .any\/(gt sl' k=gt sl k/\∀d∈ds,(gt sl k).has d=false))/\(∀l x,go ob' l=some x->go ob l=some x/\∀d∈ds,l≠d/\x.hasO d=false)
 |[],sl,sl',ob,ob',h=>by
  simp[E6] at h;simp_all
 |d::ds,sl,sl',ob,ob',h=>by
  simp only[E6] at h
  cases h1:oF d sl with
  |none=>simp_all
  |some sl1=>
   cases h2:Er d ob ob with
   |none=>simp_all
   |some ob1=>
    simp only[h1,h2] at h
    obtain⟨i1,i2⟩:=Lg h
    refine⟨λk=>?_,λl x hl=>?_⟩
    .rcases i1 k with e|⟨e1,e2⟩
     .exact .inl e
     rcases yb h1 k with e|⟨e3,e4⟩
     .simp_all
     simp_all
    obtain⟨e1,e2⟩:=i2 l x hl
    obtain⟨e3,e4⟩:=Es h2 e1
    refine⟨e4,λd' hd'=>?_⟩
    rcases aaf.1 hd' with rfl|hd'
    .simp only[W0,e4,aam] at e3
     exact⟨jl e3.1,e3.2⟩
    simp_all
structure Inx where
 x:Inf
 up:Laa
 kl:Option Nat
def TI (N:Nat) (o:Oper) (x:Inf):Prop:=(o.dst=some x.d/\x.d<N)\/(o.dst=none/\N<=x.d/\x.out= .any)
def NX (P:Program) (N:Nat) (o:Oper) (st st':St) (y:Inx):Prop:=
 AWK P o y.x.needs y.x.nob y.x.out y.x.nw y.up y.kl/\TI N o y.x/\Lk st.sl y.x.needs/\Lo st.ob y.x.nob/\Nw st.nx y.x.nw st'.nx/\st'=⟨(y.x.d,y.x.out)::st.sl,y.x.nw++(y.up++st.ob),st'.nx⟩
theorem Lx {o:Oper} {st':St} {x:Inf} (h:NS P N o st st' x):NX P N o st st' ⟨x,[],none⟩:=by
 obtain⟨h1,h2,h3,h4,h5,h6,h7⟩:=h
 exact⟨vT (Ea h1),.inl ⟨h2,h3⟩,h4,h5,h6,h7⟩
def DS2 (P:Program) (N:Nat) (ops:Array Oper) (o:Oper) (st st':St) (y:Inx):Prop:=
 (o.guard=none/\NX P N o st st' y)\/
 (∃j dj b z,o.guard=some (j,b)/\(ops[j]?).bind (·.dst)=some dj/\dj<N/\gt st.sl dj=tB b/\NX P N o st st' z/\y=⟨{z.x with needs:=(.tmp dj,tB b)::z.x.needs},z.up,z.kl⟩)\/
 (∃j dj b d,o.guard=some (j,b)/\(ops[j]?).bind (·.dst)=some dj/\dj<N/\noG b (gt st.sl dj)=true/\o.dst=some d/\d<N/\y=⟨⟨d,[(.tmp dj,gt st.sl dj)],[],.tup [],[]⟩,[],none⟩/\st'=⟨(d,.tup [])::st.sl,st.ob,st.nx⟩)
def obF (p:Nat->Bool):Nat->List Inx->Laa->Laa
 |_,[],acc=>acc
 |k,y::ys,acc=>obF p (k+1) ys (if p k then y.x.nw++(y.up++acc) else acc)
def qJ (y:Inx) (l:Nat):Bool:=(y.x.nw.any λp=>d0 p.1 l)||(y.up.any λp=>d0 p.1 l)
theorem A2 {A B:Laa} (h:(A.any λp=>d0 p.1 l)=false):go (A++B) l=go B l:=by
 induction A with
 |nil=>rfl
 |cons p A ih=>
  simp only[List.any_cons,aam] at h
  obtain⟨k,v⟩:=p
  rw[aav,go,h.1]
  exact ih h.2
theorem yV {A B:Laa} (h:(A.any λp=>d0 p.1 l)=true):go (A++B) l=go A l:=by
 induction A with
 |nil=>simp at h
 |cons p A ih=>
  obtain⟨k,v⟩:=p
  rw[aav,go,go]
  grind
theorem sq {p q:Nat->Bool} {l:Nat}:∀{ys:List Inx} {k:Nat} {A B:Laa},go A l=go B l->(∀j y,ys[j]?=some y->qJ y l=true->p (k+j)=q (k+j))->go (obF p k ys A) l=go (obF q k ys B) l
 |[],_,_,_,h,_=>h
 |y::ys,k,A,B,h,ht=>by
  simp only[obF]
  refine sq ?_ (λj z hz hj=>by have:=ht (j+1) z (by simp_all) hj;grind)
  cases hto:qJ y l with
  |true=>
   have h0:=ht 0 y rfl hto
   rw[aaR] at h0
   rw[h0]
   split
   .by_cases hn:(y.x.nw.any λp=>d0 p.1 l)=true
    .rw[yV hn,yV hn]
    rw[A2 (A:=y.x.nw) (abf.2 hn),A2 (A:=y.x.nw) (abf.2 hn)]
    have hu:(y.up.any λp=>d0 p.1 l)=true:=by simp only[qJ,aan] at hto;exact hto.resolve_left hn
    rw[yV hu,yV hu]
   exact h
  |false=>
   simp only[qJ,aam] at hto
   have e:∀X:Laa,go (y.x.nw++(y.up++X)) l=go X l:=λX=>by rw[A2 hto.1,A2 hto.2]
   split<;>split<;>(simp_all)<;>exact h
theorem Fi {p:Nat->Bool} {y:Inx}:∀{ys:List Inx} {k:Nat} {A:Laa},obF p k (ys++[y]) A=if p (k+ys.length) then y.x.nw++(y.up++obF p k ys A) else obF p k ys A
 |[],k,A=>by simp[obF]
 |z::ys,k,A=>by
  simp only[aav,obF,aak]
  rw[Fi,show k+1+ys.length=k+(ys.length+1) from by omega]
theorem yh {p:Nat->Bool}:∀{ys:List Inx} {k n:Nat} {A:Laa},(∀j,p (k+j)=decide (j<n))->obF p k ys A=obF (λ_=>true) k (ys.take n) A
 |[],k,n,A,_=>by simp[obF]
 |y::ys,k,0,A,h=>by
  have h0:=h 0
  simp at h0
  simp only[obF,List.take_zero,h0]
  have:=yh (p:=p) (ys:=ys) (k:=k+1) (n:=0) (A:=A) (λj=>by have:=h (j+1);grind)
  simpa [obF] using this
 |y::ys,k,n+1,A,h=>by
  have h0:=h 0
  simp at h0
  simp only[obF,aaD,h0,if_true]
  exact yh (λj=>by grind)
def obX (base:St) (ys:List Inx):Laa:=obF (λ_=>true) 0 ys base.ob
theorem U1 (base:St) (ys:List Inx) (y:Inx):obX base (ys++[y])=y.x.nw++(y.up++obX base ys):=by simp[obX,Fi]
def hO (ys:List Inx):List Inf:=ys.map (·.x)
def SQ (P:Program) (N:Nat) (ops:Array Oper) (base:St) (pre:List Inx) (o:Oper) (y:Inx):Prop:=
 (∀z t,(z,t)∈y.x.needs->opT (vL base (hO pre)) z=t)/\(∀l ob,(l,ob)∈y.x.nob->go (obX base pre) l=some ob)/\TI N o y.x/\
 ((o.guard=none/\AWK P o y.x.needs y.x.nob y.x.out y.x.nw y.up y.kl)\/
  (∃j dj b ys,o.guard=some (j,b)/\(ops[j]?).bind (·.dst)=some dj/\dj<N/\y.x.needs=(.tmp dj,tB b)::ys/\AWK P o ys y.x.nob y.x.out y.x.nw y.up y.kl)\/
  (∃j dj b t,o.guard=some (j,b)/\(ops[j]?).bind (·.dst)=some dj/\dj<N/\y.x.needs=[(.tmp dj,t)]/\noG b t=true/\y.x.out= .tup []/\y.x.nw=[]/\y.up=[]/\y.kl=none))
theorem R9 {ops:Array Oper} {base st1:St} {ys:List Inx} {o:Oper} {y:Inx} (hds:DS2 P N ops o st st1 y) (hsame:uK st1 st2) (h1:∀k,gt st.sl k=gt (vL base (hO ys)) k) (h2:st.ob=obX base ys) (h3:fF base.nx (hO ys) st.nx):
 SQ P N ops base ys o y/\(∀k,gt st2.sl k=gt (vL base (hO (ys++[y]))) k)/\st2.ob=obX base (ys++[y])/\fF base.nx (hO (ys++[y])) st2.nx:=by
 have hput:∀(out:T) (nw up:Laa) (n:Nat),y.x.out=out->y.x.nw=nw->y.up=up->st1=⟨(y.x.d,out)::st.sl,nw++(up++st.ob),n⟩->Nw st.nx nw n->(∀k,gt st2.sl k=gt (vL base (hO (ys++[y]))) k)/\st2.ob=obX base (ys++[y])/\fF base.nx (hO (ys++[y])) st2.nx:=by
  rintro out nw up n rfl rfl rfl rfl hnw
  refine⟨λk=>?_,?_,?_⟩
  .rw[<-hsame.1 k];simp only[hO,abe,aau,aaJ];rw[zo]
   by_cases hk:y.x.d=k
   .rw[hk,dR,dR]
   rw[c9 _ _ hk,c9 _ _ hk];exact h1 k
  .rw[<-hsame.2.1,U1,h2]
  rw[<-hsame.2.2];simp only[hO,abe,aau,aaJ];exact h3.snoc hnw
 rcases hds with⟨hg,k1,k2,k4,k5,k6,k7⟩|⟨j,dj,b,z,hg,hj,hdj,hb,⟨k1,k2,k4,k5,k6,k7⟩,rfl⟩|⟨j,dj,b,d,hg,hj,hdj,hb,hd,hN,rfl,rfl⟩
 .exact⟨⟨λz t hm=>by rw[<-s5 h1];exact Lk.mem k4 z t hm,λl' ob hm=>by rw[<-h2];exact Lo.mem k5 l' ob hm,k2,.inl ⟨hg,k1⟩⟩,hput _ _ _ _ rfl rfl rfl k7 k6⟩
 .refine⟨⟨λy' t hm=>?_,λl' ob hm=>by rw[<-h2];exact Lo.mem k5 l' ob hm,k2,.inr (.inl ⟨j,dj,b,z.x.needs,hg,hj,hdj,rfl,k1⟩)⟩,hput _ _ _ _ rfl rfl rfl k7 k6⟩
  rw[<-s5 h1]
  rcases aaf.1 hm with e|hm
  .cases e;exact hb
  exact Lk.mem k4 y' t hm
 refine⟨⟨λy' t hm=>?_,by simp,.inl ⟨hd,hN⟩,.inr (.inr ⟨j,dj,b,_,hg,hj,hdj,rfl,hb,rfl,rfl,rfl,rfl⟩)⟩,hput (.tup []) [] [] st.nx rfl rfl rfl rfl rfl⟩
 rw[<-s5 h1]
 simp at hm;obtain⟨rfl,rfl⟩:=hm;rfl
def uU (y:Inx):List Nat:=y.x.nob.map (·.1)++(y.x.nw.map (·.1)++y.up.map (·.1))
def DA (ops:Array Oper):Bool:=
 (f5 ops.size).all λi=>match ops[i]? with
  |some o=>o.after.toList.all λe=>!Region.binds .any e||nlt e.on i
  |none=>false
def mw (l:List Nat) (n:Nat):Bool:=l.any λk=>d0 k n
def at0 (seg:List Nat) (j:Nat):Nat:=seg.getD j 0
def CF (y:Inx) (d:Nat):Bool:=(y.x.needs.any λp=>p.2.has d)||mw (uU y) d||(y.x.nob.any λp=>p.2.hasO d)
def Z4 (ops:Array Oper) (seg:List Nat) (ys:List Inx):Bool:=
 (f5 ys.length).all λj=>match ys[j]? with
  |some z=>match z.kl with
   |none=>true
   |some d=>(f5 ys.length).all λi=>match ys[i]? with
    |some y=>d0 i j||!CF y d||anc ops ops.size (at0 seg j) (at0 seg i)
    |none=>false
  |none=>false
def zZ (ops:Array Oper) (done seg:List Nat) (ys:List Inx):Bool:=
 sM (hO ys)&&d0 seg.length ys.length&&oG (seg++done)&&(seg.all λi=>nlt i ops.size)&&
 ((f5 ys.length).all λi=>match ys[i]? with
  |some y=>
   ((js y.x.needs).all λk=>match u7 (hO ys) k with
    |none=>true
    |some j=>if nlt j i then anc ops ops.size (at0 seg i) (at0 seg j) else d0 i j||anc ops ops.size (at0 seg j) (at0 seg i))&&
   ((uU y).all λl=>(f5 ys.length).all λj=>match ys[j]? with
    |some z=>!qJ z l||(if nlt j i then anc ops ops.size (at0 seg i) (at0 seg j) else d0 i j||anc ops ops.size (at0 seg j) (at0 seg i))
    |none=>false)
  |none=>false)&&
 ((f5 ops.size).all λj=>mw done j||mw seg j||seg.all λi=>anc ops ops.size j i)&&Z4 ops seg ys
def Gs (f:Nat->Nat) (ys:List Inx) (listed:Array Bool) (d:Nat):Prop:=∃j y,listed.getD (f j) false=true/\ys[j]?=some y/\y.kl=some d
structure Qr (N:Nat) (cx:Cx) (base:St) (f:Nat->Nat) (ys:List Inx) (listed:Array Bool) (a:Act) (w:World) (E:Env):Prop where
 ok:dJ cx E w
 dom:∀l x,E.r l=some x->l<base.nx\/∃j y ob,listed.getD (f j) false=true/\ys[j]?=some y/\(l,ob)∈y.x.nw
 obs:∀l ob,go (obF (λj=>listed.getD (f j) false) 0 ys base.ob) l=some ob->(∀d,Gs f ys listed d->l≠d/\ob.hasO d=false)->df E w l ob
 out:∀j y,listed.getD (f j) false=true->ys[j]?=some y->(∀d,Gs f ys listed d->y.x.out.has d=false)->cvT E w y.x.out (a.tmps.getD y.x.d undef)
 old:∀k,(∀j y,listed.getD (f j) false=true->ys[j]?=some y->y.x.d≠k)->(∀d,Gs f ys listed d->(gt base.sl k).has d=false)->cvT E w (gt base.sl k) (a.tmps.getD k undef)
 dfr:a.defers=[]
 size:a.tmps.size=N
 td:∀l b,E.T l b->l<base.nx
theorem Q2 {y:Inx} (h:qJ y l=true) {X:Laa} {ob:Ob} (hg:go (y.x.nw++(y.up++X)) l=some ob):(l,ob)∈y.x.nw\/(l,ob)∈y.up:=by
 by_cases hn:(y.x.nw.any λp=>d0 p.1 l)=true
 .rw[yV hn] at hg;exact .inl (Af hg)
 have hu:(y.up.any λp=>d0 p.1 l)=true:=by simp only[qJ,aan] at h;exact h.resolve_left hn
 rw[A2 (abf.2 hn),yV hu] at hg;exact .inr (Af hg)
theorem Wc {y:Inx} {ob:Ob} (h:(l,ob)∈y.up):qJ y l=true:=by
 simp only[qJ,aan,aax]
 exact .inr ⟨(l,ob),h,by simp⟩
theorem Og {y:Inx} (h:qJ y l=true):l∈uU y:=by
 simp only[qJ,aan,aax] at h
 simp only[uU,aae,aba]
 simp_all
section
variable {P:Program} {N:Nat} {cx:Cx} {ops:Array Oper} {base:St} {f:Nat->Nat} {ys:List Inx} {Q:Exit->Act->World->Prop}
def unl (ops:Array Oper) (listed:Array Bool):Nat:=((f5 ops.size).filter λi=>!listed.getD i false).length
def xr (ops:Array Oper) (listed:Array Bool):Prop:=∀i o,ops[i]?=some o->listed.getD i false=true->∀e∈o.after,Region.binds .any e=true->listed.getD e.on false=true
theorem tw (hsz:listed.size=ops.size) (hio:i<ops.size) (hun:listed.getD i false=false):unl ops listed=unl ops (listed.setIfInBounds i true)+1:=by
 have hcount:∀(l:List Nat),l.Nodup->i∈l->(l.filter λk=>!listed.getD k false).length=(l.filter λk=>!(listed.setIfInBounds i true).getD k false).length+1:=by
  intro l
  induction l with
  |nil=>simp_all
  |cons k l ihl=>
   intro hnd hm
   obtain⟨hk1,hk2⟩:=aaY.1 hnd
   by_cases hki:i=k
   .subst hki
    have hsame:(l.filter λk=>!listed.getD k false)=(l.filter λk=>!(listed.setIfInBounds i true).getD k false):=by
     apply abr
     intro z hz
     rw[cY oaa,if_neg (λe=>hk1 (by simp_all))]
    simp_all
   have hml:i∈l:=by rcases aaf.1 hm with e|e;exact absurd e hki;exact e
   have:=ihl hk2 hml
   have hgk:(listed.setIfInBounds i true).getD k false=listed.getD k false:=by rw[cY oaa,if_neg hki]
   grind
 exact hcount (f5 ops.size) abt (by simp_all)
theorem xA {o:Oper} (hsz:listed.size=ops.size) (hio:i<ops.size) (ho:ops[i]?=some o) (hd:∀e∈o.after,Region.binds .any e=true->listed.getD e.on false=true) (hcl:xr ops listed):xr ops (listed.setIfInBounds i true):=by
 intro j oj hj hdj e he hb
 rw[cY oaa]
 split
 .rfl
 rw[cY oaa] at hdj
 split at hdj
 .simp_all
 exact hcl j oj hj hdj e he hb
def Edg (ops:Array Oper) (rk:Nat->Nat):Prop:=∀i o,ops[i]?=some o->∀e∈o.after,Region.binds .any e=true->e.on<ops.size/\rk e.on<rk i
theorem TM {ops:Array Oper} (hedge:∀i o,ops[i]?=some o->∀e∈o.after,Region.binds .any e=true->e.on<i):Edg ops (λi=>i):=λi o ho e he hb=>by
 grind
theorem Fp {rk:Nat->Nat} (hedge:Edg ops rk) (hsz:listed.size=ops.size) (hc:unl ops listed=n+1):Region.ready .any ops listed≠[]:=by
 intro h0
 have hex:∃i,i<ops.size/\listed.getD i false=false:=by
  have:((f5 ops.size).filter λi=>!listed.getD i false)≠[]:=λe=>by unfold unl at hc;grind
  obtain⟨i,hi⟩:=abp _ this
  simp only[List.mem_filter,List.mem_range,aaw] at hi
  exact⟨i,hi.1,hi.2⟩
 have hmin:∀n i,rk i<=n->i<ops.size->listed.getD i false=false->∃i,i∈Region.ready .any ops listed:=by
  intro n
  induction n using Nat.strongRecOn with
  |_ n ihn=>
   intro i hin his hif
   by_cases hd:∀e∈ops[i].after,Region.binds .any e=true->listed.getD e.on false=true
   .refine⟨i,mem_ready.2 ⟨?_,ops[i],aaA his,hd⟩⟩
    simp_all
   simp only[Classical.not_forall] at hd
   obtain⟨e,he,hb,hne⟩:=hd
   have hlt:=hedge i ops[i] (aaA his) e he hb
   exact ihn (rk e.on) oaa e.on (aah _) hlt.1 (by simp_all)
 obtain⟨i,h1,h2⟩:=hex
 obtain⟨j,hj⟩:=hmin (rk i) i (aah _) h1 h2
 simp_all
theorem mL (hsz:listed.size=ops.size) (hi:i∈Region.ready .any ops listed):i<ops.size/\listed.getD i false=false/\∃o,ops[i]?=some o/\∀e∈o.after,Region.binds .any e=true->listed.getD e.on false=true:=by
 obtain⟨h1,o,ho,hd⟩:=mem_ready.1 hi
 grind
theorem z2 (hcl:xr ops listed) (h:anc ops n i j=true) (hi:∃o,ops[i]?=some o/\∀e∈o.after,Region.binds .any e=true->listed.getD e.on false=true):listed.getD j false=true:=sE hcl n i j h hi
theorem Kr (hsz:listed.size=ops.size) (hcl:xr ops listed) (h:anc ops n i j=true) (hi:listed.getD i false=true):listed.getD j false=true:=by
 have his:i<ops.size:=by
  rcases aat i ops.size with h|h
  .exact h
  simp_all
 exact sE hcl n i j h ⟨ops[i],aaA his,hcl i _ (aaA his) hi⟩
theorem PB {o:Oper} {x:Inf} (h:TI N o x) (hs:a.tmps.size=N) (v:Value):a.put o.dst v=a.put (some x.d) v:=by
 rcases h with⟨h,_⟩|⟨h,h2,_⟩
 .rw[h]
 rw[h]
 show a=a.put (some x.d) v
 unfold Act.put
 simp only
 rw[show a.tmps.setIfInBounds x.d v=a.tmps from Array.setIfInBounds_eq_of_size_le oaa]
theorem KX {d:Nat} {v:Value} (h:a.tmps.size<=d):(a.put (some d) v).tmps.getD k undef=a.tmps.getD k undef:=by
 unfold Act.put
 grind
theorem QX (hI:Qr N cx base f ys listed a w E) (hdst:sM (hO ys)=true) {y:Inx} (hx:ys[i]?=some y) (hil:f i<listed.size) (hinj:∀j,j<ys.length->f i=f j->i=j)
 (hun:listed.getD (f i) false=false) (hdN:y.x.d<N\/(N<=y.x.d/\y.x.out= .any)) (hord:∀l,qJ y l=true->∀j z,ys[j]?=some z->qJ z l=true->listed.getD (f j) false=decide (j<i))
 {v:Value} (ok':dJ cx E' w') (ext:tA y.up y.kl E w E' w') (hv:cvT E' w' y.x.out v) (hnw:∀l ob,(l,ob)∈y.x.nw->df E' w' l ob) (hup:∀l ob,(l,ob)∈y.up->df E' w' l ob)
 (hdom:∀l x,E'.r l=some x->E.r l=some x\/∃ob,(l,ob)∈y.x.nw):Qr N cx base f ys (listed.setIfInBounds (f i) true) (a.put (some y.x.d) v) w' E':=by
 have hD:∀d,Gs f ys listed d->Gs f ys (listed.setIfInBounds (f i) true) d:=λd ⟨j,z,h1,h2,h3⟩=>⟨j,z,by
  rw[cY hil];simp_all,h2,h3⟩
 have hDi:∀d,y.kl=some d->Gs f ys (listed.setIfInBounds (f i) true) d:=λd h=>⟨i,y,by simp_all,hx,h⟩
 have hgx:∀(j:Nat) (z:Inx),ys[j]?=some z->(hO ys)[j]?=some z.x:=λj z h=>by simp[hO,h]
 have hd':∀j z,ys[j]?=some z->j≠i->z.x.d≠y.x.d:=λj z hj hne he=>hne (sN hdst j i z.x y.x (hgx j z hj) (hgx i y hx) he)
 have hlt:i<ys.length:=(aaa.1 hx).1
 refine⟨ok',λl p hl=>?_,λl ob hl hdd=>?_,λj z hj hz hdd=>?_,λk hkk hdd=>?_,hI.dfr,by simpa [Act.put] using hI.size,λl b h=>hI.td l b (by rw[<-ext.T];exact h)⟩
 .rcases hdom l p hl with h|⟨ob,h⟩
  .rcases hI.dom l p h with h|⟨j,z,ob,h1,h2,h3⟩
   .exact .inl h
   refine .inr ⟨j,z,ob,?_,h2,h3⟩
   rw[cY hil];simp_all
  exact .inr ⟨i,y,ob,by simp_all,hx,h⟩
 .cases hto:qJ y l with
  |true=>
   rw[sq (q:=λj=>decide (j<i+1)) (B:=base.ob) rfl (λj z hz hj=>by
    simp only[aaj]
    rw[cY hil]
    grind),yh (n:=i+1) (λj=>by simp),List.take_add_one,hx] at hl
   simp only[Option.toList_some] at hl
   rw[Fi,if_pos rfl] at hl
   rcases Q2 hto hl with h|h
   .simp_all
   simp_all
  |false=>
   rw[sq (q:=λj=>listed.getD (f j) false) (B:=base.ob) rfl (λj z hz hj=>by
    simp only[aaj]
    rw[cY hil,if_neg]
    grind)] at hl
   refine NC hI.ok ext (λob' hm=>?_) (λe=>(hdd l (hDi l e)).1 rfl) (λd hd=>(hdd d (hDi d hd)).2) (hI.obs l ob hl (λd hd=>hdd d (hD d hd)))
   rw[Wc hm] at hto;cases hto
 .by_cases hji:i=j
  .subst hji;rw[hx] at hz;cases hz
   rcases hdN with hdN|⟨_,ho⟩
   .rw[iv (by rw[hI.size];exact hdN),if_pos rfl];exact hv
   rw[ho];trivial
  rw[cY hil,if_neg (λe=>hji (hinj j (aaa.1 hz).1 e))] at hj
  rcases hdN with hdN|⟨hdN,_⟩
  .rw[iv (by rw[hI.size];exact hdN),if_neg (Ne.symm (hd' j z hz (Ne.symm hji)))]
   exact El hI.ok ext (λd hd=>hdd d (hDi d hd)) (hI.out j z hj hz (λd hd=>hdd d (hD d hd)))
  rw[KX (by rw[hI.size];exact hdN)]
  exact El hI.ok ext (λd hd=>hdd d (hDi d hd)) (hI.out j z hj hz (λd hd=>hdd d (hD d hd)))
 have hxk:y.x.d≠k:=hkk i y (by simp_all) hx
 have hpp:(a.put (some y.x.d) v).tmps.getD k undef=a.tmps.getD k undef:=by
  rcases hdN with hdN|⟨hdN,_⟩
  .rw[iv (by rw[hI.size];exact hdN),if_neg hxk]
  exact KX (by rw[hI.size];exact hdN)
 rw[hpp]
 refine El hI.ok ext (λd hd=>hdd d (hDi d hd)) (hI.old k (λj z hj hz=>hkk j z ?_ hz) (λd hd=>hdd d (hD d hd)))
 rw[cY hil];simp_all
theorem Ic {done:Nat->Bool} {rk:Nat->Nat} (hedge:Edg ops rk) (hhi:∀i,i<ys.length->f i<ops.size) (hinj:∀i j,i<ys.length->j<ys.length->f i=f j->i=j) (hdis:∀i,i<ys.length->done (f i)=false) {nmax:Nat} (hlab:fF base.nx (hO ys) nmax) (hdst:sM (hO ys)=true)
 (hslot:∀i y,ys[i]?=some y->∀k∈js y.x.needs,∀j,u7 (hO ys) k=some j->if nlt j i then anc ops ops.size (f i) (f j)=true else(i=j\/anc ops ops.size (f j) (f i)=true))
 (hobj:∀i y,ys[i]?=some y->∀l∈uU y,∀j z,ys[j]?=some z->qJ z l=true->if nlt j i then anc ops ops.size (f i) (f j)=true else(i=j\/anc ops ops.size (f j) (f i)=true))
 (hkill:∀j z d,ys[j]?=some z->z.kl=some d->∀i y,ys[i]?=some y->i≠j->CF y d=true->anc ops ops.size (f j) (f i)=true)
 (htail:∀j,j<ops.size->done j=false->(∀i,i<ys.length->f i≠j)->∀i,i<ys.length->anc ops ops.size j (f i)=true)
 (htold:∀(i:Nat) (o:Oper) (y:Inx),ops[f i]?=some o->ys[i]?=some y->SQ P N ops base (ys.take i) o y)
 (hfin:∀(listed:Array Bool) a w E,listed.size=ops.size->xr ops listed->(∀j,done j=true->listed.getD j false=true)->(∀i,i<ys.length->listed.getD (f i) false=true)->(∀j,done j=false->(∀i,i<ys.length->f i≠j)->listed.getD j false=false)->Qr N cx base f ys listed a w E->wpAny P .any ops Q (unl ops listed) listed a w):
 ∀(m:Nat) (listed:Array Bool) (a:Act) (w:World) (E:Env),((f5 ys.length).filter λi=>!listed.getD (f i) false).length=m->listed.size=ops.size->xr ops listed->
  (∀j,done j=true->listed.getD j false=true)->(∀j,done j=false->(∀i,i<ys.length->f i≠j)->listed.getD j false=false)->Qr N cx base f ys listed a w E->wpAny P .any ops Q (unl ops listed) listed a w:=by
 intro m
 induction m with
 |zero=>
  intro listed a w E hm hsz hcl hpre hpost hI
  refine hfin listed a w E hsz hcl hpre (λi hi=>?_) hpost hI
  have:=abq.1 (aaQ hm) i (by grind)
  grind
 |succ m ih=>
  intro listed a w E hm hsz hcl hpre hpost hI
  obtain⟨i0,hi0,hu0⟩:∃i,i<ys.length/\listed.getD (f i) false=false:=by
   have:((f5 ys.length).filter λi=>!listed.getD (f i) false)≠[]:=λe=>by grind
   obtain⟨i,hi⟩:=abp _ this
   grind
  have hus:=tw (ops:=ops) hsz (hhi i0 hi0) hu0
  rw[hus]
  refine⟨λh0=>absurd h0 (Fp hedge hsz hus),λp hp=>?_⟩
  obtain⟨hio,hun,o,ho,hd⟩:=mL hsz hp
  have hdp:done p=false:=by
   cases h:done p with
   |false=>rfl
   |true=>grind
  obtain⟨i,hil,rfl⟩:∃i,i<ys.length/\p=f i:=by
   apply Classical.byContradiction
   intro hno
   have hno':∀i,i<ys.length->f i≠p:=λi hi e=>hno ⟨i,hi,e.symm⟩
   have:=z2 hcl (htail p hio hdp hno' i0 hi0) ⟨o,ho,hd⟩
   grind
  obtain⟨y,hx⟩:∃y,ys[i]?=some y:=⟨_,v0 hil⟩
  have hus':unl ops (listed.setIfInBounds (f i0) true)=unl ops (listed.setIfInBounds (f i) true):=by
   have:=tw (ops:=ops) hsz hio hun;omega
  rw[hus']
  obtain⟨t1,t2,t3,t5⟩:=htold i o y ho hx
  have t4:y.x.d<N\/(N<=y.x.d/\y.x.out= .any):=t3.imp (·.2) (·.2)
  have hanc:∀j,anc ops ops.size (f i) (f j)=true->listed.getD (f j) false=true:=λj h=>z2 hcl h ⟨o,ho,hd⟩
  have hanc':∀j,anc ops ops.size (f j) (f i)=true->listed.getD (f j) false=false:=λj h=>by
   cases hj:listed.getD (f j) false with
   |false=>rfl
   |true=>rw[Kr hsz hcl h hj] at hun;cases hun
  have hord:∀l∈uU y,∀j z,ys[j]?=some z->qJ z l=true->listed.getD (f j) false=decide (j<i):=by
   intro l hl j z hz hj
   have:=hobj i y hx l hl j z hz hj
   by_cases hji:j<i
   .rw[if_pos (by simp[nlt];omega)] at this
    grind
   rw[if_neg (by simp[nlt];omega)] at this
   grind
  have hsp:∀d,Gs f ys listed d->CF y d=false:=λd ⟨j,z,h1,h2,h3⟩=>by
   grind
  have hneeds:∀z t,(z,t)∈y.x.needs->cvT E w t (a.eval z):=by
   intro z t hm
   have hnt:∀d,Gs f ys listed d->t.has d=false:=λd hd=>by
    have:=hsp d hd
    simp only[CF,aam] at this
    grind
   have ht:=t1 z t hm
   cases z with
   |tmp k=>
    have hks:k∈js y.x.needs:=by
     have key:∀(l:List (Operand×T)),(Operand.tmp k,t)∈l->k∈js l:=by
      intro l
      induction l with
      |nil=>grind
      |cons p r ihl=>
       intro h
       rcases aaf.1 h with e|h
       .rw[<-e];simp[js]
       have h9:=ihl h;obtain⟨z,u⟩:=p;cases z<;>simp[js,h9]
     exact key _ hm
    show cvT E w t (a.tmps.getD k undef)
    have ht':gt (vL base (hO (ys.take i))) k=t:=ht
    have hit:hO (ys.take i)=(hO ys).take i:=by simp[hO,List.map_take]
    rw[hit] at ht'
    have hgx:∀(j:Nat) (z:Inf),(hO ys)[j]?=some z->∃y',ys[j]?=some y'/\y'.x=z:=λj z h=>by
     simp only[hO,aaN,Option.map_eq_some_iff] at h;exact h
    cases hw:u7 (hO ys) k with
    |none=>
     have hno:∀z∈hO ys,z.d≠k:=by
      intro z hz e
      have:=aa0.1 hw z hz
      rw[e] at this;simp at this
     rw[zn _ _ (λz hz=>hno z (List.mem_of_mem_take hz))] at ht'
     rw[<-ht']
     exact hI.old k (λj y' _ hy=>hno y'.x (aba.2 ⟨y',aab hy,rfl⟩)) (λd hd=>by grind)
    |some j=>
     have hs:=hslot i y hx k hks j hw
     obtain⟨hjl,hjp,_⟩:=aaW.1 hw
     have hjd:(hO ys)[j].d=k:=aad hjp
     obtain⟨yj,hyj,hyx⟩:=hgx j _ (v0 hjl)
     have hju:∀j' z,(hO ys)[j']?=some z->z.d=k->j'=j:=λj' z hy he=>sN hdst j' j z (hO ys)[j] hy (v0 hjl) (by rw[he,hjd])
     by_cases hji:j<i
     .rw[if_pos (by simp[nlt];omega)] at hs
      have hdone:=hanc j hs
      have h9:=wU (base:=base) ((hO ys).take i) j (hO ys)[j] (by rw[aaH,if_pos hji];exact v0 hjl) (λj' z hy he=>hju j' z (by rw[aaH] at hy;split at hy;exact hy;cases hy) (by rw[he,hjd]))
      rw[hjd] at h9
      have:=hI.out j yj hdone hyj (λd hd=>by rw[hyx,<-h9,ht'];exact hnt d hd)
      rw[hyx,hjd] at this
      grind
     rw[if_neg (by simp[nlt];omega)] at hs
     rw[zn _ _ (λz hz e=>by
      obtain⟨j',hj'⟩:=aal hz
      rw[aaH] at hj'
      split at hj'
      .rename_i hlt;have:=hju j' z hj' e;omega
      cases hj')] at ht'
     rw[<-ht']
     refine hI.old k (λj' y' hj' hy he=>?_) (λd hd=>by rw[ht'];exact hnt d hd)
     have hjj:=hju j' y'.x (by simp[hO,hy]) he
     subst hjj
     rcases hs with rfl|hs
     .grind
     rw[hanc' j' hs] at hj';cases hj'
   |const v=>have:=(show Rel N cx E ⟨[],[],base.nx⟩ a w->cvT E w (opT [] (.const v)) (a.eval (.const v)) from λh=>h.op _);rw[<-ht];cases v<;>simp only[opT,Act.eval,cvT,cvV]<;>first|exact yP E w _|exact⟨_,rfl,u9 E w _⟩|(simp only[cvC,rdD])
   |func f=>rw[<-ht];rfl
   |global g=>rw[<-ht];trivial
  have hnob:∀l ob,(l,ob)∈y.x.nob->df E w l ob:=by
   intro l ob hm
   have hgo:=t2 l ob hm
   refine hI.obs l ob ?_ (λd hd=>by
    have:=hsp d hd
    simp only[CF,aam] at this
    refine⟨λe=>?_,by grind⟩
    subst e
    have h9:mw (uU y) l=true:=aax.2 ⟨l,by simp only[uU,aae,aba];grind,by simp⟩
    grind)
   rw[<-hgo,obX,<-yh (p:=λj=>decide (j<i)) (k:=0) (n:=i) (λj=>by simp)]
   refine sq rfl (λj z hz hj=>?_)
   rw[aaj]
   exact hord l (by simp only[uU,aae,aba];grind) j z hz hj
  have hgi:(hO ys)[i]?=some y.x:=by simp[hO,hx]
  have hfresh:∀l ob,(l,ob)∈y.x.nw->E.r l=none:=by
   intro l ob hm
   cases hr:E.r l with
   |none=>rfl
   |some p=>
    have hlr:=(lF hlab).2 i y.x l ob hgi hm
    rcases hI.dom l p hr with h|⟨j,z,ob',h1,h2,h3⟩
    .omega
    have:=(y4 hlab i j y.x z.x l ob ob' hgi (by simp[hO,h2]) hm h3).1
    grind
  have hnext:∀v E' w',dJ cx E' w'->tA y.up y.kl E w E' w'->cvT E' w' y.x.out v->(∀l ob,(l,ob)∈y.x.nw->df E' w' l ob)->(∀l ob,(l,ob)∈y.up->df E' w' l ob)->(∀l x,E'.r l=some x->E.r l=some x\/∃ob,(l,ob)∈y.x.nw)->
   wpAny P .any ops Q (unl ops (listed.setIfInBounds (f i) true)) (listed.setIfInBounds (f i) true) (a.put (some y.x.d) v) w':=by
   intro v E' w' k1 k2 k3 k4 k4' k5
   refine ih _ _ _ E' ?_ (by grind) (xA hsz hio ho hd hcl) (λj hj=>?_) (λj hj hj'=>?_) (QX hI hdst hx oaa (λj hj e=>hinj i j hil hj e) hun t4 (λl hl=>hord l (Og hl)) k1 k2 k3 k4 k4' k5)
   .have hcount:∀(l:List Nat),l.Nodup->(∀k∈l,k<ys.length)->i∈l->(l.filter λk=>!listed.getD (f k) false).length=(l.filter λk=>!(listed.setIfInBounds (f i) true).getD (f k) false).length+1:=by
     intro l
     induction l with
     |nil=>grind
     |cons k l ihl=>
      intro hnd hbd hm
      obtain⟨hk1,hk2⟩:=aaY.1 hnd
      by_cases hki:i=k
      .subst hki
       have hsame:(l.filter λk=>!listed.getD (f k) false)=(l.filter λk=>!(listed.setIfInBounds (f i) true).getD (f k) false):=by
        apply abr
        intro z hz
        rw[cY oaa,if_neg (λe=>hk1 (by
         have:i=z:=hinj i z hil (hbd z (by simp[hz])) e
         grind))]
       rw[abj (by grind),abk (by rw[cY oaa,if_pos rfl];simp),hsame,aak]
      have hml:i∈l:=by rcases aaf.1 hm with e|e;exact absurd e hki;exact e
      have:=ihl hk2 (λz hz=>hbd z (by simp[hz])) hml
      have hgk:(listed.setIfInBounds (f i) true).getD (f k) false=listed.getD (f k) false:=by rw[cY oaa,if_neg (λe=>hki (hinj i k hil (hbd k (by simp)) e))]
      cases hgd:listed.getD (f k) false with
      |true=>rw[abk (by grind),abk (by grind)];exact this
      |false=>rw[abj (by grind),abj (by grind),aak,aak,this]
    have:=hcount (f5 ys.length) abt (λk hk=>by grind) (by grind)
    omega
   .rw[cY oaa];split
    .rfl
    grind
   rw[cY oaa,if_neg (hj' i hil)];exact hpost j hj hj'
  have hrun:∀needs,(∀z t,(z,t)∈needs->cvT E w t (a.eval z))->AWK P o needs y.x.nob y.x.out y.x.nw y.up y.kl->o.wp P a w (wpAny P .any ops Q (unl ops (listed.setIfInBounds (f i) true)) (listed.setIfInBounds (f i) true)) Q:=by
   intro needs hne hawn
   refine tz (λ_ _ _ h=>h.elim) (Oper.wp_mono ?_ (hawn cx E a w hI.ok hne hnob (λl ob hm=>⟨hfresh l ob hm,E7 hlab i y.x l ob hgi hm⟩)))
   rintro a' w' ⟨v,E',rfl,k1,k2,k3,k4,k4',k5⟩
   rw[PB t3 hI.size]
   exact hnext v E' w' k1 k2 k3 k4 k4' k5
  have hguard:∀j dj (b:Bool),(ops[j]?).bind (·.dst)=some dj->dj<N->cvT E w (tB b) (a.eval (.tmp dj))->yielded ops a.tmps j=some b:=by
   intro j dj b hj hdj hcv
   have hb:a.tmps.getD dj undef= .bool b:=by simpa [cvT,cvV,cvC,rdD,Act.eval] using hcv
   have hs:dj<a.tmps.size:=by rw[hI.size];exact hdj
   have h2:a.tmps[dj]?=some (.bool b):=by
    rw[aaA hs];simpa [Array.getD,hs] using hb
   unfold yielded
   cases ho':ops[j]? with
   |none=>simp[ho'] at hj
   |some o'=>simp[ho'] at hj;simp[hj,h2]
  unfold wpOp
  simp only[ho]
  rcases t5 with⟨hg,hawn⟩|⟨j,dj,b,zs,hg,hj,hdj,hnd,hawn⟩|⟨j,dj,b,t,hg,hj,hdj,hnd,hno,hout,hnw,hup,hkl⟩
  .rw[if_pos (by simp[Region.wanted,hg])]
   exact .inl (hrun _ hneeds hawn)
  .have hy:=hguard j dj b hj hdj (hneeds (.tmp dj) (tB b) (by rw[hnd];simp))
   rw[if_pos (by simp[Region.wanted,hg,hy])]
   exact .inl (hrun zs (λz t hm=>hneeds z t (by rw[hnd];exact .tail _ hm)) hawn)
  have hy:=Gq (N:=N) (ops:=ops) (hneeds (.tmp dj) t (by rw[hnd];simp)) (by rw[hI.size];exact hdj) hj hno
  rw[if_neg (by simp[Region.wanted,hg,hy]),PB t3 hI.size]
  exact hnext undef E w hI.ok (by rw[hup,hkl];exact .of_extW (.of_ext (Ext.refl E w))) (by rw[hout];exact⟨#[],rfl,trivial⟩) (by rw[hnw];simp) (by rw[hup];simp) (λ_ _ h=>.inl h)
end
def BO (P:Program) (N:Nat) (ops:Array Oper) (o:Oper) (st st':St):Prop:=
 (o.guard=none/\AWO P N o st st')\/(∃j dj b,o.guard=some (j,b)/\(ops[j]?).bind (·.dst)=some dj/\dj<N/\gt st.sl dj=tB b/\AWO P N o st st')
def Hi (ops:Array Oper) (done:List Nat) (h:Nat):Bool:=!mw done h&&(f5 ops.size).all λj=>d0 j h||mw done j||anc ops ops.size j h
def kls:List Inx->List Nat
 |[]=>[]
 |y::ys=>match y.kl with
  |some d=>d::kls ys
  |none=>kls ys
theorem Pk {d:Nat}:∀{ys:List Inx} {y:Inx},y∈ys->y.kl=some d->d∈kls ys
 |z::zs,y,hm,hk=>by
  rcases aaf.1 hm with rfl|hm
  .simp[kls,hk]
  have:=Pk hm hk
  unfold kls
  grind
def DU (ys:List Inx) (st s:St):Prop:=
 (∀k,gt s.sl k= .any\/(gt s.sl k=gt st.sl k/\∀d∈kls ys,(gt st.sl k).has d=false))/\(∀l x,go s.ob l=some x->go st.ob l=some x/\∀d∈kls ys,l≠d/\x.hasO d=false)/\s.nx=st.nx
theorem Ej {ys:List Inx} (h:kls ys=[]):DU ys st st:=by
 refine⟨λk=>.inr ⟨rfl,?_⟩,λl x hl=>⟨hl,?_⟩,rfl⟩<;>(simp_all)
theorem Ei {ys:List Inx} {ds:List Nat} {ob:Laa} (h:kls ys=ds) (hk:E6 ds sl ob=some (sl',ob')):DU ys ⟨sl,ob,nx⟩ ⟨sl',ob',nx⟩:=by
 obtain⟨h1,h2⟩:=Lg hk
 subst h
 exact⟨h1,h2,rfl⟩
theorem MU {ys:List Inx} (h:uK st st2) (hc:DU ys st2 s):DU ys st s:=
 ⟨λk=>by rw[h.1 k];exact hc.1 k,λl x hl=>by rw[h.2.1];exact hc.2.1 l x hl,hc.2.2.trans h.2.2.symm⟩
def DZ (P:Program) (N:Nat) (ops:Array Oper):List (Nat×Oper)->List Nat->List Nat->List Inx->St->St->(St->Prop)->Prop
 |[],done,seg,ys,_,st,K=>zZ ops done seg ys=true/\∃s,DU ys st s/\K s
 |(p,o)::r,done,seg,ys,base,st,K=>
  (∃y st1 st',DS2 P N ops o st st1 y/\uK st1 st'/\DZ P N ops r done (seg++[p]) (ys++[y]) base st' K)\/
  (zZ ops done seg ys=true/\Hi ops (seg++done) p=true/\∃s st0 st1 st2,DU ys st s/\dQ N s st0/\BO P N ops o st0 st1/\dQ N st1 st2/\DZ P N ops r (p::(seg++done)) [] [] st2 st2 K)
theorem gL {l:List Nat} :mw l n=true↔n∈l:=by
 simp only[mw,aax]
 simp_all
theorem qQ {seg:List Nat} (h:j<seg.length):seg[j]?=some (at0 seg j):=by
 unfold at0
 simp_all
section
variable {P:Program} {N:Nat} {cx:Cx} {ops:Array Oper} {base:St} {f:Nat->Nat} {done seg:List Nat} {ys:List Inx} {Q:Exit->Act->World->Prop}
theorem L2 (h:zZ ops done seg ys=true):sM (hO ys)=true/\seg.length=ys.length/\(seg++done).Nodup/\(∀i,i<ys.length->at0 seg i<ops.size)/\
 (∀i y,ys[i]?=some y->∀k∈js y.x.needs,∀j,u7 (hO ys) k=some j->if nlt j i then anc ops ops.size (at0 seg i) (at0 seg j)=true else(i=j\/anc ops ops.size (at0 seg j) (at0 seg i)=true))/\
 (∀i y,ys[i]?=some y->∀l∈uU y,∀j z,ys[j]?=some z->qJ z l=true->if nlt j i then anc ops ops.size (at0 seg i) (at0 seg j)=true else(i=j\/anc ops ops.size (at0 seg j) (at0 seg i)=true))/\
 (∀j,j<ops.size->mw done j=false->(∀i,i<ys.length->at0 seg i≠j)->∀i,i<ys.length->anc ops ops.size j (at0 seg i)=true)/\
 (∀j z d,ys[j]?=some z->z.kl=some d->∀i y,ys[i]?=some y->i≠j->CF y d=true->anc ops ops.size (at0 seg j) (at0 seg i)=true):=by
 simp only[zZ,hV] at h
 obtain⟨⟨⟨⟨⟨⟨h1,h2⟩,h2'⟩,h2''⟩,h3⟩,h4⟩,h5⟩:=h
 have hlen:seg.length=ys.length:=aad h2
 have key:∀(i j:Nat),(if nlt j i then anc ops ops.size (at0 seg i) (at0 seg j) else d0 i j||anc ops ops.size (at0 seg j) (at0 seg i))=true->if nlt j i then anc ops ops.size (at0 seg i) (at0 seg j)=true else(i=j\/anc ops ops.size (at0 seg j) (at0 seg i)=true):=by
  intro i j h
  split
  .simp_all
  simp_all
 refine⟨h1,hlen,kK h2',λi hi=>?_,λi y hy k hk j hj=>?_,λi y hy l hl j z hz ht=>?_,λj hj hd hs i hi=>?_,λj z d hz hd i y hy hij hs=>?_⟩
 .exact dt (aag.1 h2'' (at0 seg i) (aab (qQ oaa)))
 .grind
 .grind
 .have:=aag.1 h4 j (by simp_all)
  rw[aan,aan] at this
  rcases this with(h|h)|h
  .simp_all
  .obtain⟨n,hn⟩:=aal (gL.1 h)
   have hns:=(aaa.1 hn).1
   have:=qQ hns
   grind
  exact aag.1 h (at0 seg i) (aab (qQ oaa))
 have hjl:=(aaa.1 hz).1
 have hil:=(aaa.1 hy).1
 have h6:=aag.1 h5 j (by simp_all)
 simp only[hz,hd] at h6
 have h7:=aag.1 h6 i (by grind)
 simp only[hy,hs,abh,Bool.or_false,aan] at h7
 rcases h7 with h7|h7
 .exact absurd (aad h7) hij
 exact h7
theorem Lb (hI:Qr N cx base f ys listed a w E) (hdst:sM (hO ys)=true) (hdone:∀j,j<ys.length->listed.getD (f j) false=true)
 (h1:∀k,gt st.sl k=gt (vL base (hO ys)) k) (h2:st.ob=obX base ys) (h3:fF base.nx (hO ys) st.nx) (hC:DU ys st s):Rel N cx E s a w:=by
 have hr:=lF h3
 obtain⟨C1,C2,C3⟩:=hC
 have hDk:∀d,Gs f ys listed d->d∈kls ys:=λd ⟨j,y,_,hy,hk⟩=>Pk (aab hy) hk
 refine⟨hI.ok,λl' x' hl=>?_,λl' ob hl=>?_,λk=>?_,hI.dfr,hI.size,λl' b' h'=>by rw[C3];exact aay (hI.td l' b' h') hr.1⟩
 .rw[C3];rcases hI.dom l' x' hl with h|⟨j,y,ob,_,h4,h5⟩
  .omega
  have:=hr.2 j y.x l' ob (by simp[hO,h4]) h5;omega
 .obtain⟨hl,hn⟩:=C2 l' ob hl
  refine hI.obs l' ob ?_ (λd hd=>hn d (hDk d hd))
  rw[<-hl,h2,obX]
  refine sq rfl (λj z hz hj=>?_)
  grind
 rcases C1 k with e|⟨e,hn⟩
 .rw[e];trivial
 rw[e]
 have hn':∀d,Gs f ys listed d->(gt st.sl k).has d=false:=λd hd=>hn d (hDk d hd)
 rw[h1 k] at hn' ⊢
 cases hw:u7 (hO ys) k with
 |none=>
  have hno:∀z∈hO ys,z.d≠k:=by
   intro z hz e
   have:=aa0.1 hw z hz
   rw[e] at this;simp at this
  rw[zn _ _ hno] at hn' ⊢
  exact hI.old k (λj y _ hy=>hno y.x (aba.2 ⟨y,aab hy,rfl⟩)) hn'
 |some j=>
  obtain⟨hjl,hjp,_⟩:=aaW.1 hw
  have hjd:(hO ys)[j].d=k:=aad hjp
  have hjl':j<ys.length:=by simpa [hO] using hjl
  have h5:(hO ys)[j]=(ys[j]).x:=by simp[hO]
  have h9:=wU (base:=base) (hO ys) j (hO ys)[j] (v0 hjl) (λj' y hy he=>sN hdst j' j y (hO ys)[j] hy (v0 hjl) he)
  rw[hjd] at h9
  have:=hI.out j ys[j] (hdone j hjl') (v0 hjl') (λd hd=>by simp_all)
  simp_all
theorem LL (hR:Rel N cx E base a w) (hl:∀j,j<ys.length->listed.getD (f j) false=false):Qr N cx base f ys listed a w E:=by
 refine⟨hR.ok,λl x h=>.inl (hR.dom l x h),λl ob h _=>?_,λj y h hy _=>?_,λk _ _=>hR.sl k,hR.dfr,hR.size,hR.td⟩
 .refine hR.obs l ob ?_
  rw[sq (q:=λ_=>false) (B:=base.ob) rfl (λj z hz hj=>by grind)] at h
  rw[yh (n:=0) (λj=>by simp)] at h
  simpa [obF] using h
 grind
theorem Lu {l:List Nat} (h:l.Nodup):∀(i j:Nat) (x:Nat),l[i]?=some x->l[j]?=some x->i=j:=by
 intro i j x hi hj
 obtain⟨hi',e1⟩:=aaa.1 hi
 obtain⟨hj',e2⟩:=aaa.1 hj
 rcases abm i j with h'|h'|h'
 .exact absurd (e1.trans e2.symm) (aaB.1 h i j hi' hj' h')
 .exact h'
 exact absurd (e2.trans e1.symm) (aaB.1 h j i hj' hi' h')
theorem TJ {K:St->Prop} {rk:Nat->Nat} (hedge:Edg ops rk) (hQ:∀E st a w,Rel N cx E st a w->K st->Q .normal a w):
 ∀{l:List (Nat×Oper)} {done seg:List Nat} {ys:List Inx} {base st:St},DZ P N ops l done seg ys base st K->seg.length=ys.length->(∀q∈l,ops[q.1]?=some q.2)->(∀j,j<ops.size->j∈seg\/j∈done\/∃q∈l,q.1=j)->
  (∀(i:Nat) (o:Oper) (y:Inx),ops[at0 seg i]?=some o->ys[i]?=some y->SQ P N ops base (ys.take i) o y)->
  (∀k,gt st.sl k=gt (vL base (hO ys)) k)->st.ob=obX base ys->fF base.nx (hO ys) st.nx->
  ∀(listed:Array Bool) (a:Act) (w:World) (E:Env),listed.size=ops.size->xr ops listed->(∀j,listed.getD j false=mw done j)->Rel N cx E base a w->wpAny P .any ops Q (unl ops listed) listed a w:=by
 intro l
 induction l with
 |nil=>
  intro done seg ys base st hD hlen hops hcov htold h1 h2 h3 listed a w E hsz hcl hls hR
  obtain⟨hseg,s,hcl0,hK⟩:=hD
  obtain⟨c1,c1',c1'',c2,c3,c4,c5,c6⟩:=L2 hseg
  obtain⟨nd1,nd2,nd3⟩:=abl.1 c1''
  have hnd:∀i,i<ys.length->mw done (at0 seg i)=false:=λi hi=>by
   rw[abf];intro h
   exact nd3 _ (aab (qQ oaa)) _ (gL.1 h) rfl
  refine Ic (f:=at0 seg) (done:=mw done) hedge c2 (λi j hi hj e=>Lu nd1 i j _ (qQ oaa) (by rw[e];exact qQ oaa)) hnd h3 c1 c3 c4 c6 c5 htold (λlisted' a' w' E' hsz' hcl' hd' hs' hp' hI'=>?_) _ listed a w E rfl hsz hcl (λj hj=>by simp_all) (λj hj _=>by simp_all) (LL hR (λj hj=>by grind))
  have hall:∀j,j<ops.size->listed'.getD j false=true:=λj hj=>by
   rcases hcov j hj with h|h|⟨q,hq,_⟩
   .obtain⟨i,hi⟩:=aal h
    have his:=(aaa.1 hi).1
    have:=qQ his;grind
   .exact hd' j (gL.2 h)
   cases hq
  have hu:unl ops listed'=0:=by
   unfold unl
   rw[List.length_eq_zero_iff,abq]
   intro j hj
   rw[hall j (by grind)]
   simp
  rw[hu]
  refine⟨?_,hQ E' s a' w' (Lb hI' c1 hs' h1 h2 h3 hcl0) hK⟩
  rw[List.eq_nil_iff_forall_not_mem]
  intro i hi
  obtain⟨k1,k2,_⟩:=mL hsz' hi
  grind
 |cons q r ih=>
  obtain⟨p,o⟩:=q
  intro done seg ys base st hD hlen hops hcov htold h1 h2 h3 listed a w E hsz hcl hls hR
  have hat:ops[p]?=some o:=hops (p,o) (by simp)
  rcases hD with⟨y,st1,st',hds,hsame,hr⟩|⟨hseg,hbar,s,st0,st1,st2,hcl0,hw0,hbo,hw1,hr⟩
  .obtain⟨k1,k2,k3,k4⟩:=R9 hds hsame h1 h2 h3
   refine ih hr (by simp[hlen]) (λq hq=>hops q (by simp[hq])) (λj hj=>?_) (λi o' y' ho' hy'=>?_) k2 k3 k4 listed a w E hsz hcl hls hR
   .grind
   rcases aat i ys.length with h|h
   .rw[aaq h] at hy'
    rw[List.take_append_of_le_length oaa]
    have e:at0 (seg++[p]) i=at0 seg i:=by unfold at0;rw[abo,abo,aaq oaa]
    grind
   have hi:i=ys.length:=by
    have:=(aaa.1 hy').1
    simp at this;omega
   subst hi
   simp at hy'
   subst hy'
   rw[List.take_left]
   have e:at0 (seg++[p]) ys.length=p:=by unfold at0;rw[abo,<-hlen];simp
   grind
  obtain⟨c1,c1',c1'',c2,c3,c4,c5,c6⟩:=L2 hseg
  obtain⟨nd1,nd2,nd3⟩:=abl.1 c1''
  have hlt:p<ops.size:=by
   rcases aat p ops.size with h|h
   .exact h
   grind
  have hnd:∀i,i<ys.length->mw done (at0 seg i)=false:=λi hi=>by
   rw[abf];intro h
   exact nd3 _ (aab (qQ oaa)) _ (gL.1 h) rfl
  refine Ic (f:=at0 seg) (done:=mw done) hedge c2 (λi j hi hj e=>Lu nd1 i j _ (qQ oaa) (by rw[e];exact qQ oaa)) hnd h3 c1 c3 c4 c6 c5 htold (λlisted' a' w' E' hsz' hcl' hd' hs' hp' hI'=>?_) _ listed a w E rfl hsz hcl (λj hj=>by grind) (λj hj _=>by grind) (LL hR (λj hj=>by grind))
  have hseg':∀j,j∈seg->listed'.getD j false=true:=λj h=>by
   obtain⟨i,hi⟩:=aal h
   have his:=(aaa.1 hi).1
   have:=qQ his;grind
  have hls':∀j,listed'.getD j false=mw (seg++done) j:=λj=>by
   cases hm:mw (seg++done) j with
   |true=>
    rcases aae.1 (gL.1 hm) with h|h
    .grind
    exact hd' j (gL.2 h)
   |false=>
    have hn:j∉seg++done:=λh=>by rw[gL.2 h] at hm;cases hm
    refine hp' j ?_ (λi hi e=>hn ?_)
    .rw[abf];intro h;exact hn (aae.2 (.inr (gL.1 h)))
    rw[<-e];exact aae.2 (.inl (aab (qQ oaa)))
  have hRel:=Lb hI' c1 hs' h1 h2 h3 hcl0
  simp only[Hi,hV] at hbar
  obtain⟨hpd,hbar⟩:=hbar
  have hun:listed'.getD p false=false:=by rw[hls'];simpa using hpd
  have hus:=tw (ops:=ops) hsz' hlt hun
  rw[hus]
  refine⟨λh0=>absurd h0 (Fp hedge hsz' hus),λq hq=>?_⟩
  obtain⟨hio,hunp,o',ho',hd⟩:=mL hsz' hq
  have hp:q=p:=by
   have hb:=aag.1 hbar q (by grind)
   rw[aan,aan] at hb
   rcases hb with(hb|hb)|hb
   .exact aad hb
   .grind
   have:=z2 hcl' hb ⟨o',ho',hd⟩
   grind
  subst hp
  rw[hat] at ho'
  cases ho'
  obtain⟨E0,hR0⟩:=hw0 cx E' a' w' hRel
  have hrun:∀(h:AWO P N o st0 st1),o.wp P a' w' (wpAny P .any ops Q (unl ops (listed'.setIfInBounds q true)) (listed'.setIfInBounds q true)) Q:=by
   intro h
   refine tz (λ_ _ _ h=>h.elim) (Oper.wp_mono ?_ (h cx E0 a' w' hR0))
   rintro a2 w2 ⟨E2,hR2⟩
   obtain⟨E3,hR3⟩:=hw1 cx E2 a2 w2 hR2
   refine ih hr rfl (λq hq=>hops q (by simp[hq])) (λj hj=>?_) (λi o' y' ho' hy'=>by simp at hy') (λk=>rfl) rfl rfl _ a2 w2 E3 (by grind) (xA hsz' hlt hat hd hcl') (λj=>?_) hR3
   .rcases hcov j hj with h|h|⟨z,hz,e⟩
    .grind
    .grind
    grind
   rw[cY oaa]
   split
   .rename_i h;subst h;symm;exact gL.2 (by simp)
   rename_i hne
   rw[hls' j]
   cases hm:mw (seg++done) j with
   |true=>symm;exact gL.2 (List.mem_cons_of_mem _ (gL.1 hm))
   |false=>
    symm;rw[abf];intro h
    rcases aaf.1 (gL.1 h) with e|h
    .omega
    rw[gL.2 h] at hm;cases hm
  unfold wpOp
  simp only[hat]
  rcases hbo with⟨hg,hawo⟩|⟨j,dj,b,hg,hj,hdj,hb,hawo⟩
  .rw[if_pos (by simp[Region.wanted,hg])]
   grind
  have hy:=Gp (ops:=ops) hR0 hj hdj hb
  rw[if_pos (by simp[Region.wanted,hg,hy])]
  grind
end
def Jy (l:List Oper):List Nat->Option (List (Nat×Oper))
 |[]=>some []
 |i::is=>match l[i]?,Jy l is with
  |some o,some r=>some ((i,o)::r)
  |_,_=>none
def Tn (n:Nat) (is:List Nat):Bool:=(f5 n).all λj=>mw is j
theorem s6 {l:List Oper}:∀{is:List Nat} {r:List (Nat×Oper)},Jy l is=some r->(∀q∈r,l[q.1]?=some q.2)/\(∀j∈is,∃q∈r,q.1=j)
 |[],r,h=>by simp[Jy] at h;subst h;simp
 |i::is,r,h=>by
  simp only[Jy] at h
  split at h
  .rename_i o r' h1 h2
   simp at h;subst h
   obtain⟨k1,k2⟩:=s6 h2
   refine⟨λq hq=>?_,λj hj=>?_⟩
   .grind
   rcases aaf.1 hj with rfl|hj
   .simp_all
   simp_all
  cases h
theorem qR {id:Nat} {l:List Oper} {AQ:Exit->St->Prop} (is:List Nat) {r:List (Nat×Oper)} (hm:P.follows .mixedOrders=true:=by exact Try.follows) (he:DA l.toArray=true:=by kernel_rfl) (hc:Tn l.length is=true:=by kernel_rfl) (ho:Jy l is=some r:=by exact rfl)
 (h:DZ P N l.toArray r [] [] [] st st (λs=>AQ .normal s)):AWC P N (.region id l.toArray true) st AQ:=by
 intro cx E a w hR
 refine wp_region_any hm ?_
 have hR':=Bu hR
 have hedge:∀i o,l.toArray[i]?=some o->∀e∈o.after,Region.binds .any e=true->e.on<i:=by
  intro i o ho e hm hb
  have hi:i<l.toArray.size:=by
   rcases aat i l.toArray.size with h|h
   .exact h
   simp_all
  have:=aag.1 he i (by simp_all)
  simp only[ho] at this
  have:=aag.1 this e (by simp_all)
  simp only[hb,abh,Bool.false_or] at this
  exact dt this
 have hfull:unl l.toArray (aai l.toArray.size false)=l.toArray.size:=by
  unfold unl
  rw[List.filter_eq_self.2]
  .simp
  simp_all
 have:=TJ (P:=P) (cx:=cx) (Q:=E9 N cx AQ) (TM hedge) (λE st a w hR hK=>⟨E,st,hR,hK⟩) h rfl (λq hq=>by have:=(s6 ho).1 q hq;simp_all) (λj hj=>by
  have hj':j<l.length:=by simpa using hj
  have:=aag.1 hc j (by simp_all)
  exact .inr (.inr ((s6 ho).2 j (gL.1 this)))) (λi o y _ hy=>by simp at hy) (λk=>rfl) rfl rfl (aai l.toArray.size false) a _ E (by simp) (λi o ho hd=>by rw[iX] at hd;cases hd) (λj=>by rw[iX];simp[mw]) hR'
 simp_all
section
variable {P:Program} {N:Nat} {ops:Array Oper} {l:List (Nat×Oper)} {o:Oper} {st st' base:St} {x:Inf} {y:Inx} {K:St->Prop} {ys:List Inx} {dn seg:List Nat} {p:Nat}
theorem M5 (hs:zZ ops dn seg ys=true) (hk:kls ys=[]) (h:K st):DZ P N ops [] dn seg ys base st K:=⟨hs,st,Ej hk,h⟩
theorem mU {ds:List Nat} {ob:Laa} (hs:zZ ops dn seg ys=true) (hk:kls ys=ds) (hA:E6 ds sl ob=some (sl',ob')) (h:K ⟨sl',ob',nx⟩):DZ P N ops [] dn seg ys base ⟨sl,ob,nx⟩ K:=⟨hs,_,Ei hk hA,h⟩
theorem jD (hg:o.guard=none) (h:NS P N o st st' x) (h':DZ P N ops l dn (seg++[p]) (ys++[⟨x,[],none⟩]) base st' K):DZ P N ops ((p,o)::l) dn seg ys base st K:=.inl ⟨_,st',st',.inl ⟨hg,Lx h⟩,.refl _,h'⟩
theorem OK {dj:Tmp} {b:Bool} (hg:o.guard=some (j,b)) (hj:(ops[j]?).bind (·.dst)=some dj) (hdj:nlt dj N=true) (hb:gt st.sl dj=tB b) (h:NS P N o st st' x)
 (h':DZ P N ops l dn (seg++[p]) (ys++[⟨{x with needs:=(.tmp dj,tB b)::x.needs},[],none⟩]) base st' K):DZ P N ops ((p,o)::l) dn seg ys base st K:=.inl ⟨_,st',st',.inr (.inl ⟨j,dj,b,_,hg,hj,dt hdj,hb,Lx h,rfl⟩),.refl _,h'⟩
theorem B9 (hg:o.guard=none) (h:NX P N o st st' y) (h':DZ P N ops l dn (seg++[p]) (ys++[y]) base st' K):DZ P N ops ((p,o)::l) dn seg ys base st K:=.inl ⟨_,st',st',.inl ⟨hg,h⟩,.refl _,h'⟩
theorem Xi {dj d:Tmp} {b:Bool} (hg:o.guard=some (j,b)) (hj:(ops[j]?).bind (·.dst)=some dj) {t:T} (hdj:nlt dj N=true) (ht:gt st.sl dj=t) (hb:noG b t=true) (hd:o.dst=some d) (hN:nlt d N=true)
 (h':DZ P N ops l dn (seg++[p]) (ys++[⟨⟨d,[(.tmp dj,t)],[],.tup [],[]⟩,[],none⟩]) base ⟨(d,.tup [])::st.sl,st.ob,st.nx⟩ K):DZ P N ops ((p,o)::l) dn seg ys base st K:=
 .inl ⟨_,_,_,.inr (.inr ⟨j,dj,b,d,hg,hj,dt hdj,by simp_all,hd,dt hN,by rw[ht],rfl⟩),.refl _,h'⟩
theorem fg {st0 st1:St} (hg:o.guard=none) (h:AWO P N o st0 st1):BO P N ops o st0 st1:=.inl ⟨hg,h⟩
theorem bC:dQ N s s:=λ_ E _ _ h=>⟨E,h⟩
theorem B8 {st0 st1:St} (hs:zZ ops dn seg ys=true) (hkl:kls ys=[]) (hb:Hi ops (seg++dn) p=true) (hw:dQ N st st0) (h:BO P N ops o st0 st1) (hw2:dQ N st1 st2) {dn':List Nat} (hlo:p::(seg++dn)=dn') (h':DZ P N ops l dn' [] [] st2 st2 K):DZ P N ops ((p,o)::l) dn seg ys base st K:=by
 subst hlo
 exact .inr ⟨hs,hb,st,st0,st1,st2,Ej hkl,hw,h,hw2,h'⟩
theorem Pv (h:uK st st2) (hn:NX P N o st2 st' y):∃s',NX P N o st s' y/\uK s' st':=by
 obtain⟨h1,h2,h4,h5,h6,h7⟩:=hn
 refine⟨⟨(y.x.d,y.x.out)::st.sl,y.x.nw++(y.up++st.ob),st'.nx⟩,⟨h1,h2,Ik (λk=>(h.1 k).symm) h4,by rw[h.2.1];exact h5,by rw[h.2.2];exact h6,rfl⟩,?_⟩
 rw[h7]
 refine⟨λk=>?_,?_,rfl⟩
 .by_cases hk:y.x.d=k
  .subst hk;rw[dR,dR]
  rw[c9 _ _ hk,c9 _ _ hk];exact h.1 k
 show y.x.nw++(y.up++st.ob)=y.x.nw++(y.up++st2.ob)
 rw[h.2.1]
theorem OL (h:uK st st2) (hd:DZ P N ops ((p,o)::l) dn seg ys base st2 K):DZ P N ops ((p,o)::l) dn seg ys base st K:=by
 rcases hd with⟨y,st1,st',hds,hsame,hr⟩|⟨hs,hb,s,st0,st1,st3,hcl,hw,hbo,hw2,hr⟩
 .left
  rcases hds with⟨hg,hn⟩|⟨j,dj,b,z,hg,hj,hdj,hb,hn,rfl⟩|⟨j,dj,b,d,hg,hj,hdj,hb,hd,hN,rfl,rfl⟩
  .obtain⟨s',k1,k2⟩:=Pv h hn
   exact⟨y,s',st',.inl ⟨hg,k1⟩,k2.trans hsame,hr⟩
  .obtain⟨s',k1,k2⟩:=Pv h hn
   exact⟨_,s',st',.inr (.inl ⟨j,dj,b,z,hg,hj,hdj,by rw[h.1];exact hb,k1,rfl⟩),k2.trans hsame,hr⟩
  refine⟨_,⟨(d,.tup [])::st.sl,st.ob,st.nx⟩,st',.inr (.inr ⟨j,dj,b,d,hg,hj,hdj,by rw[h.1];exact hb,hd,hN,by rw[h.1],rfl⟩),uK.trans (b:=⟨(d,.tup [])::st2.sl,st2.ob,st2.nx⟩) ⟨λk=>?_,h.2.1,h.2.2⟩ hsame,hr⟩
  show gt ((d,T.tup [])::st.sl) k=gt ((d,T.tup [])::st2.sl) k
  by_cases hk:d=k
  .subst hk;rw[dR,dR]
  rw[c9 _ _ hk,c9 _ _ hk];exact h.1 k
 exact .inr ⟨hs,hb,s,st0,st1,st3,MU h hcl,hw,hbo,hw2,hr⟩
theorem TL {d:Tmp} {b:Bool} (hb:gt st.sl d=tB b) (h1:b=true->DZ P N ops ((p,o)::l) dn seg ys base ⟨(d,tB true)::st.sl,st.ob,st.nx⟩ K) (h0:b=false->DZ P N ops ((p,o)::l) dn seg ys base ⟨(d,tB false)::st.sl,st.ob,st.nx⟩ K):DZ P N ops ((p,o)::l) dn seg ys base st K:=by
 cases hc:b with
 |true=>exact OL (um hb hc) (h1 hc)
 |false=>exact OL (um hb hc) (h0 hc)
theorem IJ {K K':St->Prop} (hk:∀s,K s->K' s):∀{l:List (Nat×Oper)} {dn seg:List Nat} {ys:List Inx} {base st:St},DZ P N ops l dn seg ys base st K->DZ P N ops l dn seg ys base st K'
 |[],_,_,_,_,_,h=>by obtain⟨h1,s,h2,h3⟩:=h;exact⟨h1,s,h2,hk _ h3⟩
 |(p,o)::l,_,_,_,_,_,h=>by
  rcases h with⟨y,st1,st',h1,h2,h3⟩|⟨h1,h2,s,st0,st1,st2,h0,h3,h4,h5,h6⟩
  .exact .inl ⟨y,st1,st',h1,h2,IJ hk h3⟩
  exact .inr ⟨h1,h2,s,st0,st1,st2,h0,h3,h4,h5,IJ hk h6⟩
theorem Xh (M:St) [c:Gr N K] (h1:DZ P N ops l dn seg ys base st (λs=>dQ N s M)) (h2:K M):DZ P N ops l dn seg ys base st K:=IJ (λs h=>c.h _ _ h h2) h1
end
section
variable {P:Program} {N:Nat} {ops:Array Oper} {l:List (Nat×Oper)} {o:Oper} {sl:Lab} {ob:Laa} {nx:Nat} {base:St} {K:St->Prop} {ys:List Inx} {dn seg:List Nat} {p:Nat}
theorem zgs {dj d:Tmp} {b:Bool} {t:T} (hg:o.guard=some (j,b)) (hj:(ops[j]?).bind (·.dst)=some dj) (hdj:nlt dj N=true) (ht:gt sl dj=t) (hb:noG b t=true) (hd:o.dst=some d) (hN:nlt d N=true)
 (h':DZ P N ops l dn (seg++[p]) (ys++[⟨⟨d,[(.tmp dj,t)],[],.tup [],[]⟩,[],none⟩]) base ⟨(d,.tup [])::sl,ob,nx⟩ K):DZ P N ops ((p,o)::l) dn seg ys base ⟨sl,ob,nx⟩ K:=Xi (st:=⟨sl,ob,nx⟩) hg hj hdj ht hb hd hN h'
theorem zg2 {dj:Tmp} {b c:Bool} (hg:o.guard=some (j,b)) (hj:(ops[j]?).bind (·.dst)=some dj) (hb:gt sl dj=tB c)
 (h1:c=true->DZ P N ops ((p,o)::l) dn seg ys base ⟨(dj,tB true)::sl,ob,nx⟩ K) (h0:c=false->DZ P N ops ((p,o)::l) dn seg ys base ⟨(dj,tB false)::sl,ob,nx⟩ K):DZ P N ops ((p,o)::l) dn seg ys base ⟨sl,ob,nx⟩ K:=TL (st:=⟨sl,ob,nx⟩) hb h1 h0
theorem cwx {d:Tmp} {o:Nat} {x0 x1:Ob} 
 (hF:FnW P f x1 ts' y res) (ht:zx sl args=some ts:=by exact rfl) (ho:go ob o=some x0:=by exact rfl) (hl:x0.loc=x1:=by exact rfl) (hfx:x0.free=true:=by exact rfl) (hfy:y.free=true:=by exact rfl) (ha:CU [] o ts=some (ts',eqs):=by exact rfl) (he:Eqs eqs:=by repeat (first|exact trivial|refine⟨by first|rfl|exact lm _|simp,?_⟩)) (hi:EX nx res=some (out,nw,n):=by exact rfl) (hw:Lw nx nw n=true:=by exact rfl) (hN:nlt d N=true:=by exact rfl) (hob:apO nw ((o,y)::ob)=some ob':=by exact rfl):
 NX P N ⟨some d,.call ⟨.value (.func f),args.toArray,tys⟩,ty,ps,af,gd⟩ ⟨sl,ob,nx⟩ ⟨(d,out)::sl,ob',n⟩ ⟨⟨d,args.zip ts,[(o,x0)],out,nw⟩,[(o,y)],none⟩:=by
 subst hl
 rw[xy hob]
 obtain⟨t1,t2⟩:=ub ht
 exact⟨vT (Qv hF t1 hfx hfy ha he hi),.inl ⟨rfl,dt hN⟩,t2,⟨ho,trivial⟩,DD hw,rfl⟩
theorem AZ {cx:Cx} {o c:Nat} {cs:Array Value} (ok:dJ cx E w) (hr:E.r o=some (b,c)) (hF:¬E.F b):dJ cx E (w.setRow b cs):=by
 have hsz:(w.setRow b cs).heap.size=w.heap.size:=by simp
 refine⟨λk hk=>by rw[hsz];exact ok.fb k hk,ok.gf,ok.gn,λo b c h=>by rw[hsz];exact ok.rb o b c h,ok.inj,ok.os,ok.tape,ok.output,by rw[hsz];exact ok.size,λk hk hW=>?_,ok.pin,ok.ff,λk hg hk'=>(ok.gc k hg hk').of_eq (d5 w b k cs (λe=>hF (by simp_all))),ok.sf.setRow hr⟩
 rw[d5 _ _ _ _ (λe=>by
  subst e
  rcases(ok.rb o k c hr).2 with h|h
  .omega
  simp_all)]
 exact ok.block k hk hW
theorem KR {cx:Cx} {o c:Nat} {cs:Array Value} {ob':Ob} (ok:dJ cx E w) (hr:E.r o=some (b,c)) (hF:¬E.F b):Qq [(o,ob')] E w E (w.setRow b cs):=by
 refine⟨λ_ _ h=>h,λ_ h=>h,λ_ h=>h,λ_ h=>.inl h,λk hk hne=>d5 w b k cs (λe=>?_),λl ob k c' hm h=>?_,rfl,rfl,rfl⟩
 .simp_all
 simp_all
theorem spx {x y:Operand} {o:Nat} {vt:TypeId} {cs' ns:List C} {v:V} (q:Nat) (hq:aar N q=true:=by exact rfl) [ht:TyN P t n] (hx:opT sl x= .v (.c (.p o k)):=by exact rfl) (hy:opT sl y= .v v:=by exact rfl) (ho:go ob o=some (.var vt cs):=by exact rfl) (hv:vcs v=some ns:=by exact rfl)
 (hn:d0 ns.length n=true:=by exact rfl) (hst:ns.all C.sto=true:=by exact rfl) (hs:u5 k ns cs=some cs':=by exact rfl):
 NX P N ⟨none,.store t x y,ty,ps,af,gd⟩ ⟨sl,ob,nx⟩ ⟨(q,.any)::sl,(o,.var vt cs')::ob,nx⟩ ⟨⟨q,[(x,.v (.c (.p o k))),(y,.v v)],[(o,.var vt cs)],.any,[]⟩,[(o,.var vt cs')],none⟩:=by
 refine⟨vT ?_,.inr ⟨rfl,aaF hq,rfl⟩,⟨hx,hy,trivial⟩,⟨ho,trivial⟩,rfl,rfl⟩
 intro cx E a w ok hne hnob hfr
 have h1:cvT E w (.v (.c (.p o k))) (a.eval x):=hne x _ (.head _)
 have h2:cvT E w (.v v) (a.eval y):=hne y _ (.tail _ (.head _))
 obtain⟨b,c,hr,hu⟩:=h1
 have h3:df E w o (.var vt cs):=hnob o _ (.head _)
 obtain⟨b',c',arr,hr',hh,hcv,hF⟩:=h3
 rw[hr] at hr';cases hr'
 have hvc:=J8 hv h2
 have hl1:=jt hvc
 have hl2:=jt hcv
 have hnn:=aad hn
 have hle:=(uC hs).2
 have hsz:(a.eval y).cells.size=n:=by simp at hl1;omega
 have hrun:=uD (P:=P) (t:=t) (n:=n) (k:=k) hsz (SJ hv hst h2) hh (by simp_all)
 unfold Oper.wp
 simp only[execOp,hu,Sem.run_bind,hrun,Result.andThen_ok,Sem.run_pure,Oper.upon_skip,Act.put]
 have hk:=kc (cs:=(arr.toList.take k++(a.eval y).cells.toList++arr.toList.drop (k+n)).toArray) (w:=w) ok hr hF
 refine⟨undef,E,trivial,AZ ok hr hF,?_,trivial,(λ_ _ h=>by cases h),λl ob' hm=>?_,λl p h=>.inl h⟩
 .exact KR ok hr hF
 simp at hm;obtain⟨rfl,rfl⟩:=hm
 refine⟨b,c,_,hr,i7 _ hh,?_,hF⟩
 refine sC hk (BU hs hvc hcv ?_ λi=>?_)
 .grind
 rw[show(arr.toList.take k++(a.eval y).cells.toList++arr.toList.drop (k+n)).toArray.toList=arr.toList.take k++(a.eval y).cells.toList++arr.toList.drop (k+n) from rfl]
 exact mW oaa oaa i
end
def sw (p q l:Nat):Nat:=bif d0 l p then q else bif d0 l q then p else l
theorem MR (a b:Nat):d0 a b=decide (a=b):=by
 by_cases h:a=b
 .subst h;simp
 rw[nj h];simp[h]
theorem Gf (p q l:Nat):sw p q (sw p q l)=l:=by
 unfold sw
 simp only[MR]
 grind
theorem sw_inj {a:Nat} (h:sw p q a=sw p q b):a=b:=by rw[<-Gf p q a,h,Gf]
theorem V5 (hp:rsv p=false) (hq:rsv q=false) (l:Nat):(rsv l=true->sw p q l=l)/\(rsv (sw p q l)=true->sw p q l=l):=by
 unfold sw
 simp only[MR]
 grind
theorem sw_lt (hp:p<n) (hq:q<n) (h:sw p q l<n):l<n:=by
 rw[<-Gf p q l]
 generalize sw p q l=m at h
 unfold sw
 grind
def swC (p q:Nat):C->C
 | .w o n=>.w (sw p q o) n
 | .wn o n=>.wn (sw p q o) n
 | .s o a b c=>.s (sw p q o) a b c
 | .p o k=>.p (sw p q o) k
 | .e o a b c=>.e (sw p q o) a b c
 |c=>c
def Yy (p q:Nat):List C->List C
 |[]=>[]
 |c::cs=>swC p q c::Yy p q cs
def swV (p q:Nat):V->V
 | .c c=>.c (swC p q c)
 | .agg cs=>.agg (Yy p q cs)
def swVs (p q:Nat):List V->List V
 |[]=>[]
 |c::cs=>swV p q c::swVs p q cs
def swT (p q:Nat):T->T
 | .v v=>.v (swV p q v)
 | .tup vs=>.tup (swVs p q vs)
 | .any=>.any
def swOb (p q:Nat):Ob->Ob
 | .var t cs=>.var t (Yy p q cs)
 |o=>o
def swS (p q:Nat):Lab->Lab
 |[]=>[]
 |(k,t)::r=>(k,swT p q t)::swS p q r
def swO (p q:Nat):Laa->Laa
 |[]=>[]
 |(k,t)::r=>(sw p q k,swOb p q t)::swO p q r
def Env.sw (E:Env) (p q:Nat):Env:={E with r:=λl=>E.r (AM.sw p q l),n:=λl=>E.n (AM.sw p q l)}
theorem V3 {c:C} (h:cvC E w c u):cvC (E.sw p q) w (swC p q c) u:=by
 have e:∀o,(E.sw p q).r (sw p q o)=E.r o:=λo=>by simp[Env.sw,Gf]
 cases c with
 |w o n=>obtain⟨b,c,h1,h2⟩:=h;exact⟨b,c,(e o).trans h1,h2⟩
 |wn o n=>
  have e2:(E.sw p q).n (sw p q o)=E.n o:=by simp[Env.sw,Gf]
  rcases h with⟨h1,h2⟩|⟨h0,b,c,h1,h2⟩
  .exact .inl ⟨by simp_all,h2⟩
  exact .inr ⟨by simp_all,b,c,(e o).trans h1,h2⟩
 |s o a b c=>obtain⟨A,c',b',k,h1,h2⟩:=h;exact⟨A,c',b',k,(e o).trans h1,h2⟩
 |p o k=>obtain⟨b,c,h1,h2⟩:=h;exact⟨b,c,(e o).trans h1,h2⟩
 |e o a b c=>obtain⟨b',c',h1,h2⟩:=h;exact⟨b',c',(e o).trans h1,h2⟩
 |_=>exact h
theorem J5 {E:Env} {w:World} {p q:Nat}:∀{cs:List C} {us:Lae},CV E w cs us->CV (E.sw p q) w (Yy p q cs) us
 |[],[],h=>h
 |[],_::_,h=>h.elim
 |_::_,[],h=>h.elim
 |_::_,_::_,h=>⟨V3 h.1,J5 h.2⟩
theorem V4 {c:V} (h:cvV E w c u):cvV (E.sw p q) w (swV p q c) u:=by
 cases c with
 |c c=>exact V3 h
 |agg cs=>obtain⟨arr,h1,h2⟩:=h;exact⟨arr,h1,J5 h2⟩
theorem Qb {E:Env} {w:World} {p q:Nat}:∀{cs:List V} {us:Lae},VV E w cs us->VV (E.sw p q) w (swVs p q cs) us
 |[],[],h=>h
 |[],_::_,h=>h.elim
 |_::_,[],h=>h.elim
 |_::_,_::_,h=>⟨V4 h.1,Qb h.2⟩
theorem swT_ok {t:T} (h:cvT E w t u):cvT (E.sw p q) w (swT p q t) u:=by
 cases t with
 |v v=>exact V4 h
 |tup vs=>obtain⟨arr,h1,h2⟩:=h;exact⟨arr,h1,Qb h2⟩
 |any=>trivial
theorem Yz {o:Nat} {ob:Ob} (h:df E w (sw p q o) ob):df (E.sw p q) w o (swOb p q ob):=by
 cases ob with
 |var t cs=>obtain⟨b,c,arr,h1,h2,h3,h4⟩:=h;exact⟨b,c,arr,h1,h2,J5 h3,h4⟩
 |row t sz els g m=>exact h
 |rown t sz els g=>exact h
 |abs l y=>exact h
theorem Ua {p q:Nat}:∀(sl:Lab) (k:Nat),gt (swS p q sl) k=swT p q (gt sl k)
 |[],k=>rfl
 |(j,t)::r,k=>by
  simp only[swS,gt]
  cases d0 j k
  .exact Ua r k
  rfl
theorem T9 {p q:Nat}:∀(ob:Laa) (o:Nat),go (swO p q ob) o=(go ob (sw p q o)).map (swOb p q)
 |[],o=>rfl
 |(j,t)::r,o=>by
  simp only[swO,go,MR]
  by_cases h:j=sw p q o
  .subst h;simp[Gf]
  have h2:sw p q j≠o:=λe=>h (by rw[<-e,Gf])
  simp only[h,h2,decide_false,cond_false]
  exact T9 r o
theorem Mw {ob:Laa} (hp:rsv p=false:=by exact rfl) (hq:rsv q=false:=by exact rfl) (hpn:nlt p nx=true:=by exact rfl) (hqn:nlt q nx=true:=by exact rfl):dQ N ⟨sl,ob,nx⟩ ⟨swS p q sl,swO p q ob,nx⟩:=by
 intro cx E a w hR
 have ok:=hR.ok
 refine⟨E.sw p q,⟨ok.fb,ok.gf,ok.gn,λo b c h=>?_,λo o' b c c' h h'=>sw_inj (ok.inj _ _ _ _ _ h h'),ok.os,ok.tape,ok.output,ok.size,ok.block,λo x hr h=>?_,ok.ff,ok.gc,?_⟩,λo x h=>sw_lt (dt hpn) (dt hqn) (hR.dom _ x h),λo ob' h=>?_,λk=>?_,hR.dfr,hR.size,hR.td⟩
 .obtain⟨h1,h2⟩:=ok.rb _ b c h
  refine⟨h1,h2.imp id λh3=>⟨h3.1,?_⟩⟩
  have:=(V5 hp hq o).2 h3.2
  simp_all
 .have h':E.r (sw p q o)=some x:=h
  rw[(V5 hp hq o).1 (JH hr)] at h'
  exact ok.pin o x hr h'
 .have sf:=ok.sf
  exact⟨λl b h=>⟨(sf.tb l b h).1,(sf.tb l b h).2.1,λo c=>(sf.tb l b h).2.2.1 _ c,(sf.tb l b h).2.2.2⟩,sf.tt,λb h=>⟨(sf.zc b h).1,(sf.zc b h).2.1,λo c=>(sf.zc b h).2.2.1 _ c,(sf.zc b h).2.2.2⟩,sf.zs,sf.ze⟩
 .rw[T9] at h
  cases hg:go ob (sw p q o) with
  |none=>simp_all
  |some x=>rw[hg] at h;cases h;exact Yz (hR.obs _ x hg)
 rw[Ua];exact swT_ok (hR.sl k)
def wnC (o n:Nat):C->C
 | .w k m=>bif d0 k o then .w k n else .w k m
 | .wn k m=>bif d0 k o then .wn k n else .wn k m
 |c=>c
def Wv (o n:Nat):C->Lac
 | .w k m=>bif d0 k o then [(m,n)] else []
 | .wn k m=>bif d0 k o then [(m,n)] else []
 |_=>[]
def Wu (o n:Nat):List C->List C
 |[]=>[]
 |c::cs=>wnC o n c::Wu o n cs
def Mx (o n:Nat):List C->Lac
 |[]=>[]
 |c::cs=>Wv o n c++Mx o n cs
def wnT (o n:Nat):T->T
 | .v (.c c)=>.v (.c (wnC o n c))
 | .v (.agg cs)=>.v (.agg (Wu o n cs))
 |t=>t
def wnET (o n:Nat):T->Lac
 | .v (.c c)=>Wv o n c
 | .v (.agg cs)=>Mx o n cs
 |_=>[]
def wnS (o n:Nat):Lab->Lab
 |[]=>[]
 |(k,t)::r=>(k,wnT o n t)::wnS o n r
def Se (o n:Nat):Lab->Lac
 |[]=>[]
 |(_,t)::r=>wnET o n t++Se o n r
def wnO (o n:Nat):Laa->Laa
 |[]=>[]
 |(k,.var t cs)::r=>(k,.var t (Wu o n cs))::wnO o n r
 |p::r=>p::wnO o n r
def Oo (o n:Nat):Laa->Lac
 |[]=>[]
 |(_,.var _ cs)::r=>Mx o n cs++Oo o n r
 |_::r=>Oo o n r
theorem Wt {o:Nat} {c:C} (he:Eqs (Wv o n c)) (h:cvC E w c u):cvC E w (wnC o n c) u:=by
 cases c with
 |w k m=>
  simp only[wnC,Wv] at he ⊢
  cases hk:d0 k o with
  |false=>exact h
  |true=>rw[hk] at he;have:m=n:=he.1;simp_all
 |wn k m=>
  simp only[wnC,Wv] at he ⊢
  cases hk:d0 k o with
  |false=>exact h
  |true=>rw[hk] at he;have:m=n:=he.1;simp_all
 |_=>exact h
theorem Ka {E:Env} {w:World} {o n:Nat}:∀{cs:List C} {us:Lae},Eqs (Mx o n cs)->CV E w cs us->CV E w (Wu o n cs) us
 |[],[],_,h=>h
 |[],_::_,_,h=>h.elim
 |_::_,[],_,h=>h.elim
 |_::_,_::_,he,h=>by obtain⟨h1,h2⟩:=eR he;exact⟨Wt h1 h.1,Ka h2 h.2⟩
theorem wnT_ok {o:Nat} {t:T} (he:Eqs (wnET o n t)) (h:cvT E w t u):cvT E w (wnT o n t) u:=by
 cases t with
 |v v=>
  cases v with
  |c c=>exact Wt he h
  |agg cs=>obtain⟨arr,h1,h2⟩:=h;exact⟨arr,h1,Ka he h2⟩
 |_=>exact h
theorem Ws {o:Nat} {ob:Laa} (he:Eqs (Se o n sl)) (he2:Eqs (Oo o n ob)):dQ N ⟨sl,ob,nx⟩ ⟨wnS o n sl,wnO o n ob,nx⟩:=by
 intro cx E a w hR
 refine⟨E,hR.ok,hR.dom,λp x h=>?_,λk=>?_,hR.dfr,hR.size,hR.td⟩
 .have key:∀(ob:Laa) (x:Ob),Eqs (Oo o n ob)->go (wnO o n ob) p=some x->∃y,go ob p=some y/\(df E w p y->df E w p x):=by
   intro ob
   induction ob with
   |nil=>intro x _ h;cases h
   |cons q r ih=>
    intro x he h
    obtain⟨k,v⟩:=q
    cases v with
    |var t cs=>
     obtain⟨h1,h2⟩:=eR (show Eqs (Mx o n cs++Oo o n r) from he)
     simp only[wnO,go] at h ⊢
     cases hk:d0 k p with
     |false=>simp_all
     |true=>
      rw[hk] at h
      cases h
      exact⟨_,rfl,λ⟨b,c,arr,k1,k2,k3,k4⟩=>⟨b,c,arr,k1,k2,Ka h1 k3,k4⟩⟩
    |row t sz els g m=>
     simp only[wnO,go] at h ⊢
     cases hk:d0 k p with
     |false=>rw[hk] at h;exact ih x he h
     |true=>simp_all
    |rown t sz els g=>
     simp only[wnO,go] at h ⊢
     cases hk:d0 k p with
     |false=>rw[hk] at h;exact ih x he h
     |true=>simp_all
    |abs l y=>
     simp only[wnO,go] at h ⊢
     cases hk:d0 k p with
     |false=>rw[hk] at h;exact ih x he h
     |true=>simp_all
  obtain⟨y,h1,h2⟩:=key ob x he2 h
  exact h2 (hR.obs p y h1)
 have key:∀(sl:Lab),Eqs (Se o n sl)->(cvT E w (gt sl k) (a.tmps.getD k undef)->cvT E w (gt (wnS o n sl) k) (a.tmps.getD k undef)):=by
  intro sl
  induction sl with
  |nil=>intro _ h;exact h
  |cons q r ih=>
   intro he h
   obtain⟨j,t⟩:=q
   obtain⟨h1,h2⟩:=eR (show Eqs (wnET o n t++Se o n r) from he)
   simp only[wnS,gt] at h ⊢
   cases hj:d0 j k with
   |false=>simp_all
   |true=>rw[hj] at h;exact wnT_ok h1 h
 exact key sl he (hR.sl k)
theorem clo_w {AQ:Exit->St->Prop} {e:Exit} {m:St} [c:Clo N AQ] (hw:dQ N s m) (h:AQ e m):AQ e s:=c.h _ _ _ hw h
def nlC:C->C
 | .nil=>.d true (.l [])
 |c=>c
def UW:List C->List C
 |[]=>[]
 |c::cs=>nlC c::UW cs
def nlT:T->T
 | .v (.c c)=>.v (.c (nlC c))
 | .v (.agg cs)=>.v (.agg (UW cs))
 |t=>t
theorem UV {c:C} (h:cvC E w c u):cvC E w (nlC c) u:=by
 cases c with
 |nil=>
  have h:u= .slice none 0 0:=h
  subst h
  show rdD _ _ _ _
  rw[rdD]
  simp_all
 |_=>exact h
theorem Ju {E:Env} {w:World}:∀{cs:List C} {us:Lae},CV E w cs us->CV E w (UW cs) us
 |[],[],h=>h
 |[],_::_,h=>h.elim
 |_::_,[],h=>h.elim
 |_::_,_::_,h=>⟨UV h.1,Ju h.2⟩
theorem Wr {ob:Laa} {t:T} (hk:gt sl k=t:=by exact rfl):dQ N ⟨sl,ob,nx⟩ ⟨(k,nlT t)::sl,ob,nx⟩:=by
 intro cx E a w hR
 refine⟨E,hR.ok,hR.dom,hR.obs,λj=>?_,hR.dfr,hR.size,hR.td⟩
 by_cases hj:k=j
 .subst hj
  rw[dR]
  have:=hR.sl k
  rw[hk] at this
  cases t with
  |v v=>
   cases v with
   |c c=>exact UV this
   |agg cs=>obtain⟨arr,h1,h2⟩:=this;exact⟨arr,h1,Ju h2⟩
  |_=>exact this
 rw[c9 _ _ hj];exact hR.sl j
theorem Mu {o:Nat} {ob:Laa} (ho:go ob o=some (.var ty cs):=by exact rfl):dQ N ⟨sl,ob,nx⟩ ⟨sl,(o,.var ty (UW cs))::ob,nx⟩:=by
 intro cx E a w hR
 refine⟨E,hR.ok,hR.dom,λp x h=>?_,hR.sl,hR.dfr,hR.size,hR.td⟩
 by_cases hp:o=p
 .subst hp
  rw[cI] at h;cases h
  obtain⟨b,c,arr,h1,h2,h3,h4⟩:=hR.obs o _ ho
  exact⟨b,c,arr,h1,h2,Ju h3,h4⟩
 rw[b7 _ _ hp] at h;exact hR.obs p x h
def zy (o n:Nat):Lab->Option Lab
 |[]=>some []
 |(k,.v (.c c))::r=>match zy o n r with
  |some r'=>match c with
   | .w q m=>bif d0 q o then some ((k,.v (.c (.w q n)))::r') else some ((k,.v (.c (.w q m)))::r')
   | .wn q m=>bif d0 q o then some ((k,.v (.c (.wn q n)))::r') else some ((k,.v (.c (.wn q m)))::r')
   |c=>some ((k,.v (.c c))::r')
  |none=>none
 |(k,t)::r=>match zy o n r with
  |some r'=>some ((k,wnT o n t)::r')
  |none=>none
theorem Qn {o n:Nat}:∀{sl sl':Lab},zy o n sl=some sl'->sl'=wnS o n sl
 |[],sl',h=>by simp[zy] at h;subst h;rfl
 |(k,t)::r,sl',h=>by
  cases hr:zy o n r with
  |none=>
   exfalso
   cases t with
   |v v=>cases v<;>simp[zy,hr] at h
   |tup vs=>simp[zy,hr] at h
   |any=>simp[zy,hr] at h
  |some r'=>
   have:=Qn hr
   subst this
   cases t with
   |v v=>
    cases v with
    |c c=>
     cases c with
     |w q m=>
      simp only[zy,hr] at h
      simp only[wnS,wnT,wnC]
      grind
     |wn q m=>
      simp only[zy,hr] at h
      simp only[wnS,wnT,wnC]
      grind
     |_=>simp only[zy,hr] at h;cases h;rfl
    |agg cs=>simp only[zy,hr] at h;cases h;rfl
   |tup vs=>simp only[zy,hr] at h;cases h;rfl
   |any=>simp only[zy,hr] at h;cases h;rfl
def Kb (o n:Nat):Laa->Option Laa
 |[]=>some []
 |(k,.var t cs)::r=>match Kb o n r with
  |some r'=>some ((k,.var t (Wu o n cs))::r')
  |none=>none
 |p::r=>match Kb o n r with
  |some r'=>some (p::r')
  |none=>none
theorem Qm {o n:Nat}:∀{sl sl':Laa},Kb o n sl=some sl'->sl'=wnO o n sl
 |[],sl',h=>by simp[Kb] at h;subst h;rfl
 |(k,t)::r,sl',h=>by
  cases hr:Kb o n r with
  |none=>exfalso;cases t<;>simp[Kb,hr] at h
  |some r'=>
   have:=Qm hr
   subst this
   cases t<;>simp only[Kb,hr] at h<;>cases h<;>rfl
theorem vN {o:Nat} {ob:Laa} (hs:zy o n sl=some sl':=by exact rfl) (ho:Kb o n ob=some ob':=by exact rfl) (he:Eqs (Se o n sl):=by repeat (first|exact trivial|refine⟨by first|rfl|simp,?_⟩)) (he2:Eqs (Oo o n ob):=by repeat (first|exact trivial|refine⟨by first|rfl|simp,?_⟩)):dQ N ⟨sl,ob,nx⟩ ⟨sl',ob',nx⟩:=by
 rw[Qn hs,Qm ho];exact Ws he he2
section
variable {P:Program} {N:Nat} {d:Tmp} {ty:TypeId} {ps:String} {af:Array Edge} {gd:Option (Nat×Bool)} {x y z:Operand}
def Env.mv (E:Env) (o q b c:Nat):Env:={E with r:=λl=>if l=q then some (b,c) else if l=o then none else E.r l}
theorem Ld {o:Nat} {ys:Lad} {c:C} [ht:ei P t e sz by_] (hrv:rsv o=false)
 (ho:go nob o=some (.row e sz els g true)) (hs:Src nob c ys gy) (hn:els.length=n) (hsz:∀e∈ys,e.length=sz) (hb:(n+ys.length)*by_<=140737488355328) (h63:n+ys.length<=9223372036854775807):
 AWK P ⟨some d,.call ⟨.builtin .append,#[x,y],#[t,t]⟩,ty,ps,af,gd⟩ [(x,.v (.c (.w o n))),(y,.v (.c c))] nob (.v (.c (.w q (n+ys.length)))) [(q,.row e sz (els++ys) (g&&gy) true)] [] (some o):=by
 intro cx E a w ok hne hnob hfr
 have hob:∀l x,go nob l=some x->df E w l x:=λl x h=>hnob l x (Af h)
 obtain⟨hq1,hq2⟩:=hfr q _ (.head _)
 have h1:cvT E w (.v (.c (.w o n))) (a.eval x):=hne x _ (.head _)
 have h2:cvT E w (.v (.c c)) (a.eval y):=hne y _ (.tail _ (.head _))
 obtain⟨b,cc,hr,hu⟩:=h1
 obtain⟨b',c',arr,hr',hh,ha,hlc,hmx,hes,hrd,hFm,_⟩:=hob o _ ho
 rw[hr] at hr';cases hr'
 have hF:=hFm rfl
 have hoq:o≠q:=λe=>by simp_all
 obtain⟨A,k,hv,hyk,hA⟩:=DO hob hs h2
 obtain⟨ii,zz,i1,i2,i3,i4,i5⟩:=ht.i
 have hbl:=(ok.rb o b cc hr)
 have hown:w.ownsRow 0 e sz (.slice (some ⟨b,0,none⟩) n cc) n (arr.toList.take (n*sz)):=
  ⟨by simp_all,.inr ⟨b,cc,arr,rfl,aap _,hh,by omega,hmx,ha,rfl⟩⟩
 have hsrc:∃news:Lae,news.length=ys.length*sz/\(∀u∈news,u.oneCell'=true)/\(∀(j:Nat) (xd:D),ys.flatten[j]?=some xd->∃u,news[j]?=some u/\rdD w (E.H gy) xd u)/\
  ∃v' w',(Builtin.append_ #[t,t] ty #[.slice (some ⟨b,0,none⟩) n cc,.slice A ys.length k]).run P w= .ok v' w'/\w'.ownsRow 0 e sz v' (n+ys.length) (arr.toList.take (n*sz)++news)/\w.grownBy w' (some b)/\v'≠.slice none 0 0/\(v'.ownBlock=some b\/v'.ownBlock=some w.heap.size):=by
  have hgood:∀ad,A=some ad->∀news:Lae,news.length=ys.length*sz->(∀(j:Nat) (u:Value),news[j]?=some u->w.cell? (ad.add j)=some u)->(∀u∈news,u.oneCell'=true)->
   ∃v' w',(Builtin.append_ #[t,t] ty #[.slice (some ⟨b,0,none⟩) n cc,.slice A ys.length k]).run P w= .ok v' w'/\w'.ownsRow 0 e sz v' (n+ys.length) (arr.toList.take (n*sz)++news)/\w.grownBy w' (some b)/\v'≠.slice none 0 0/\(v'.ownBlock=some b\/v'.ownBlock=some w.heap.size):=by
   intro ad hAd news n1 n2 n3
   obtain⟨v',w',r1,r2,r3,r4,r5⟩:=run_append_own_at (P:=P) w 0 t ty e ii zz sz by_ ht.u i1 i4 i2 i3 i5 ht.p _ n _ hown ad ys.length k news n1 n2 n3 (by unfold maxLen;omega) hb (aap _)
   exact⟨v',w',by simp_all,r2,r3,(λh=>by simp_all),r5⟩
  rcases hA with h0|⟨b2,off,rfl,hrd2⟩
  .subst h0
   refine⟨[],by simp,by simp,by simp,?_⟩
   cases A with
   |none=>exact⟨_,w,s9 w ht.u i1 hown k,by simp_all,⟨rfl,rfl,rfl,aah _,λ_ _ _=>rfl⟩,by simp,.inl rfl⟩
   |some ad=>simp_all
  obtain⟨us,q1,q2,q3,q4⟩:=vw (fw.1 hrd2)
  exact⟨us,by rw[q1,gE hsz],q3,q4,hgood _ rfl us (by rw[q1,gE hsz]) q2 q3⟩
 obtain⟨news,n1,n2,n3,v',w',r1,r2,r3,r4,r5⟩:=hsrc
 obtain⟨_,r2⟩:=r2
 rcases r2 with⟨rfl,_⟩|⟨bn,cap,cur,rfl,_,hhn,hcap,hcapm,hcur,htk⟩
 .simp_all
 unfold Oper.wp
 simp only[execOp,resolve,invoke,builtin,Sem.run_bind,Sem.run_pure,Result.andThen_ok,aaV,aau,aaJ,hu,hv,r1,Oper.upon_value]
 have hbn:bn=b\/bn=w.heap.size:=by simpa [Value.ownBlock] using r5
 have hsame:∀k,k<w.heap.size->k≠b->w'.heap[k]?=w.heap[k]?:=λk hk hne=>r3.block k hk (λe=>hne (by injection e))
 have hnF:¬E.F bn:=by
  rcases hbn with rfl|rfl
  .exact hF
  exact λh=>by have:=ok.fb _ h;omega
 have hbig:bn<w'.heap.size:=by
  rcases aat bn w'.heap.size with h|h
  .exact h
  simp_all
 have hnew:∀l bl cl,l≠o->E.r l=some (bl,cl)->bl≠bn:=by
  intro l bl cl hne hl e
  subst e
  rcases hbn with h|h
  .subst h;exact hne (ok.inj l o _ _ _ hl hr)
  have:=(ok.rb l bl cl hl).1;omega
 have hHb:∀g k,E.H g k->k≠b/\k<w.heap.size:=λg k hk=>⟨λe=>by subst e;cases g;exact hF hk;exact hF (ok.gf _ hk),ok.hb hk⟩
 have kH:∀(g:Bool) (k:Nat),E.H g k->w'.heap[k]?=w.heap[k]?:=λg k hk=>hsame k (hHb g k hk).2 (hHb g k hk).1
 have kI:∀(g:Bool) (k:Nat),E.H g k->(E.mv o q bn cap).H g k:=λ_ _ h=>h
 have hbnew:cx.w0.heap.size<=b:=by
  rcases hbl.2 with h|h
  .exact h
  simp_all
 have hmv:∀l bl cl,(E.mv o q bn cap).r l=some (bl,cl)->(l=q/\bl=bn/\cl=cap)\/(l≠q/\l≠o/\E.r l=some (bl,cl)):=by
  intro l bl cl hl
  simp only[Env.mv] at hl
  split at hl
  .simp_all
  simp_all
 refine⟨_,E.mv o q bn cap,rfl,⟨λk hk=>aay (ok.fb k hk) r3.size,ok.gf,ok.gn,λl bl cl hl=>?_,λl l' bl cl cl' hl hl'=>?_,by rw[r3.os];exact ok.os,by rw[r3.tape];exact ok.tape,by rw[r3.output];exact ok.output,abd ok.size r3.size,λk hk hW=>?_,λl xx hv hl=>?_,ok.ff,λk hk hk'=>(ok.gc k hk hk').of_eq (hsame k (hHb false k hk).2 (hHb false k hk).1),ok.sf.turn hr rfl rfl (λ_ h=>.inl h) (λl bl cl hl=>?_) r3.size hsame⟩,
  ⟨λl xx hl hlr=>?_,λ_ h=>h,λ_ h=>h,λ_ h=>.inl h,λk hk _ hkl=>hsame k hk (λe=>hkl o cc rfl (e▸hr)),(λ_ _ _ _ h=>by cases h),λl bl cl hl hlr=>?_,rfl,rfl,rfl⟩,⟨bn,cap,by simp[Env.mv],rfl⟩,λl ob hm=>?_,(λ_ _ h=>by cases h),λl xx hl=>?_⟩
 .rcases hmv l bl cl hl with⟨_,rfl,rfl⟩|⟨_,_,hl⟩
  .omega
  have:=ok.rb l bl cl hl;grind
 .rcases hmv l bl cl hl with⟨h1,h2,h3⟩|⟨h1,h2,h3⟩<;>rcases hmv l' bl cl' hl' with⟨k1,k2,k3⟩|⟨k1,k2,k3⟩
  .omega
  .grind
  .grind
  exact ok.inj l l' bl cl cl' h3 k3
 .rw[hsame k oaa oaa];exact ok.block k hk hW
 .obtain⟨bl,cl⟩:=xx
  rcases hmv l bl cl hl with⟨rfl,_⟩|⟨_,_,hl⟩
  .rw[rN hq2] at hv;cases hv
  exact ok.pin l _ hv hl
 .grind
 .simp only[Env.mv]
  grind
 .grind
 .simp at hm;obtain⟨rfl,rfl⟩:=hm
  have hall:∀e'∈els++ys,e'.length=sz:=λe' he'=>by
   grind
  refine⟨bn,cap,cur,by simp[Env.mv],hhn,hcur,by simp;omega,hcapm,hall,?_,λ_=>hnF,λh=>by cases h⟩
  rw[fw]
  refine oI λj xd hj=>?_
  rw[aaj,eS hhn]
  rw[List.flatten_append] at hj
  have hfl:els.flatten.length=n*sz:=by rw[gE hes,hn]
  have hxs:(arr.toList.take (n*sz)).length=n*sz:=by simp[ha];rw[Nat.min_eq_left oaa]
  have hcurj:∀u,(arr.toList.take (n*sz)++news)[j]?=some u->cur[j]?=some u:=by
   intro u hu
   rw[<-htk,aaH] at hu
   split at hu
   .simp_all
   cases hu
  by_cases hjn:j<n*sz
  .rw[aaq oaa] at hj
   obtain⟨u,u1,u2⟩:=nq (fw.1 hrd) hj
   rw[aaj,eS hh] at u1
   refine⟨u,hcurj u ?_,cS (kH _) (kI _) _ _ (pj ok u2 (by simp_all))⟩
   grind
  rw[aao oaa,hfl] at hj
  obtain⟨u,u1,u2⟩:=n3 _ _ hj
  refine⟨u,hcurj u ?_,cS (kH _) (kI _) _ _ (pj ok u2 (by simp))⟩
  rw[aao oaa,hxs]
  exact u1
 grind
theorem w9 {ys:Lad} {c:C} [ht:ei P t e sz by_]
 (hs:Src nob c ys gy) (hne0:ys≠[]) (hsz:∀e∈ys,e.length=sz) (hb:ys.length*by_<=140737488355328) (h63:ys.length<=9223372036854775807)
 {cx:Cx} (ok:dJ cx E w) (hob:∀l x,go nob l=some x->df E w l x) (hq1:E.r q=none) (hq2:rsv q=false) (hu:a.eval x= .slice none 0 0) (h2:cvT E w (.v (.c c)) (a.eval y)):
 Oper.wp P ⟨some d,.call ⟨.builtin .append,#[x,y],#[t,t]⟩,ty,ps,af,gd⟩ a w (λa' w'=>∃v E',a'=a.put (some d) v/\dJ cx E' w'/\Ext E w E' w'/\cvT E' w' (.v (.c (.w q ys.length))) v/\(∀l ob,(l,ob)∈[(q,Ob.row e sz ys gy true)]->df E' w' l ob)/\
  (∀l x,E'.r l=some x->E.r l=some x\/∃ob,(l,ob)∈[(q,Ob.row e sz ys gy true)])) (λ_ _ _=>False):=by
 obtain⟨A,k,hv,hyk,hA⟩:=DO hob hs h2
 obtain⟨ii,zz,i1,i2,i3,i4,i5⟩:=ht.i
 have hown:=World.ownsRow_nil w 0 e sz
 rcases hA with h0|⟨b2,off,rfl,hrd2⟩
 .simp_all
 obtain⟨news,q1,q2,q3,n3⟩:=vw (fw.1 hrd2)
 have n1:news.length=ys.length*sz:=by rw[q1,gE hsz]
 obtain⟨v',w',r1,r2,r3,r4,r5⟩:=run_append_own_at (P:=P) w 0 t ty e ii zz sz by_ ht.u i1 i4 i2 i3 i5 ht.p _ 0 _ hown ⟨b2,off,none⟩ ys.length k news n1 q2 q3 (by unfold maxLen;omega) (by simp_all) (aap _)
 have hnn:v'≠.slice none 0 0:=λh=>hne0 (aaQ (r4.1 h).2)
 obtain⟨_,r2⟩:=r2
 rcases r2 with⟨rfl,_⟩|⟨bn,cap,cur,rfl,_,hhn,hcap,hcapm,hcur,htk⟩
 .simp_all
 simp only[aaj,abb] at r1 hcap htk hnn r4 r5
 unfold Oper.wp
 simp only[execOp,resolve,invoke,builtin,Sem.run_bind,Sem.run_pure,Result.andThen_ok,aaV,aau,aaJ,hu,hv,r1,Oper.upon_value]
 have hbn:bn=w.heap.size:=by simpa [Value.ownBlock] using r5
 have hsame:∀k,k<w.heap.size->w'.heap[k]?=w.heap[k]?:=λk hk=>r3.block k hk (λe=>by simp[Value.ownBlock] at e)
 have hnF:¬E.F bn:=λh=>by have:=ok.fb _ h;omega
 have hbig:bn<w'.heap.size:=by
  rcases aat bn w'.heap.size with h|h
  .exact h
  simp_all
 have kH:∀(g:Bool) (k:Nat),E.H g k->w'.heap[k]?=w.heap[k]?:=λg k hk=>hsame k (ok.hb hk)
 have kI:∀(g:Bool) (k:Nat),E.H g k->(E.new q bn cap).H g k:=λ_ _ h=>h
 have hmv:∀l bl cl,(E.new q bn cap).r l=some (bl,cl)->(l=q/\bl=bn/\cl=cap)\/(l≠q/\E.r l=some (bl,cl)):=by
  intro l bl cl hl
  simp only[Env.new] at hl
  split at hl
  .simp_all
  simp_all
 refine⟨_,E.new q bn cap,rfl,⟨λk hk=>aay (ok.fb k hk) r3.size,ok.gf,ok.gn,λl bl cl hl=>?_,λl l' bl cl cl' hl hl'=>?_,by rw[r3.os];exact ok.os,by rw[r3.tape];exact ok.tape,by rw[r3.output];exact ok.output,abd ok.size r3.size,λk hk hW=>?_,λl xx hv hl=>?_,ok.ff,λk hk hk'=>(ok.gc k hk hk').of_eq (hsame k (ok.fb k hk)),ok.sf.grow rfl rfl (λ_ h=>.inl h) (λl bl cl hl=>?_) r3.size hsame⟩,
  ⟨λl xx hlr=>?_,λ_ h=>h,λ_ h=>h,λ_ h=>.inl h,hsame,rfl,rfl,rfl⟩,⟨bn,cap,by simp[Env.new],rfl⟩,λl ob hm=>?_,λl xx hl=>?_⟩
 .rcases hmv l bl cl hl with⟨_,rfl,rfl⟩|⟨_,hl⟩
  .exact⟨hbig,.inl (by rw[hbn];exact ok.size)⟩
  have:=ok.rb l bl cl hl;grind
 .rcases hmv l bl cl hl with⟨h1,h2,h3⟩|⟨h1,h3⟩<;>rcases hmv l' bl cl' hl' with⟨k1,k2,k3⟩|⟨k1,k3⟩
  .omega
  .have:=(ok.rb l' bl cl' k3).1;omega
  .have:=(ok.rb l bl cl h3).1;omega
  exact ok.inj l l' bl cl cl' h3 k3
 .rw[hsame k (by have:=ok.size;omega)];exact ok.block k hk hW
 .obtain⟨bl,cl⟩:=xx
  rcases hmv l bl cl hl with⟨rfl,_⟩|⟨_,hl⟩
  .rw[rN hq2] at hv;cases hv
  exact ok.pin l _ hv hl
 .grind
 .simp only[Env.new]
  grind
 .simp at hm;obtain⟨rfl,rfl⟩:=hm
  refine⟨bn,cap,cur,by simp[Env.new],hhn,hcur,by omega,hcapm,hsz,?_,λ_=>hnF,λh=>by cases h⟩
  rw[fw]
  refine oI λj xd hj=>?_
  rw[aaj,eS hhn]
  obtain⟨u,u1,u2⟩:=n3 _ _ hj
  refine⟨u,?_,cS (kH _) (kI _) _ _ u2⟩
  grind
 grind
theorem Jl {ys:Lad} {c:C} [ht:ei P t e sz by_]
 (hs:Src nob c ys gy) (hne0:ys≠[]) (hsz:∀e∈ys,e.length=sz) (hb:ys.length*by_<=140737488355328) (h63:ys.length<=9223372036854775807):
 AWN P ⟨some d,.call ⟨.builtin .append,#[x,y],#[t,t]⟩,ty,ps,af,gd⟩ [(x,.v (.c .nil)),(y,.v (.c c))] nob (.v (.c (.w q ys.length))) [(q,.row e sz ys gy true)]:=by
 intro cx E a w ok hne hnob hfr
 obtain⟨hq1,hq2⟩:=hfr q _ (.head _)
 exact w9 hs hne0 hsz hb h63 ok (λl x h=>hnob l x (Af h)) hq1 hq2 (hne x _ (.head _)) (hne y _ (.tail _ (.head _)))
end
section
variable {P:Program} {N:Nat} {d:Tmp} {ty:TypeId} {ps:String} {af:Array Edge} {gd:Option (Nat×Bool)} {x y:Operand} {sl:Lab} {ob:Laa} {nx:Nat} {α:Type} {enc:α->List D}
theorem apx {o:Nat} {ys zs:List α} {gg:Bool} {c:C} (ls:List Nat) [ei P t e sz by_] (H:da by_ (ys++zs).length=true) (hzd:zs.map enc=zd:=by exact rfl) (henc:∀a,(enc a).length=sz:=by exact λ_=>rfl)
 (hp:vp ob ls=some nob:=by exact rfl) (hd:nlt d N=true:=by exact rfl) (hx:opT sl x= .v (.c (.w o n)):=by exact rfl) (hy:opT sl y= .v (.c c):=by exact rfl) (hn:ys.length=n:=by first|rfl|simp) (hs:Src nob c zd gy:=by first|exact .d|exact .nil|exact .w rfl (by first|rfl|exact lm _|simp)|exact .wn rfl (by first|rfl|exact lm _|simp)) (ho:go nob o=some (.row e sz (ys.map enc) g true):=by exact rfl) (hg:(g&&gy)=gg:=by exact rfl) (hrv:rsv o=false:=by exact rfl) (hnx:nxt nx=some nx':=by exact rfl):
 NX P N ⟨some d,.call ⟨.builtin .append,#[x,y],#[t,t]⟩,ty,ps,af,gd⟩ ⟨sl,ob,nx⟩ ⟨(d,.v (.c (.w nx (ys++zs).length)))::sl,(nx,.row e sz ((ys++zs).map enc) gg true)::ob,nx'⟩
  ⟨⟨d,[(x,.v (.c (.w o n))),(y,.v (.c c))],nob,.v (.c (.w nx (ys++zs).length)),[(nx,.row e sz ((ys++zs).map enc) gg true)]⟩,[],some o⟩:=by
 subst hzd;subst hg
 simp only[da,decide_eq_true_eq,aaz] at H
 have:=Ld (P:=P) (d:=d) (ty:=ty) (ps:=ps) (af:=af) (gd:=gd) (x:=x) (y:=y) (t:=t) (e:=e) (sz:=sz) (by_:=by_) (q:=nx) (n:=n) hrv ho hs (by simp_all) (Je henc zs) (by simp_all) (by simp_all)
 rw[<-abe,aaI,<-hn,<-aaz] at this
 exact⟨by simp_all,.inl ⟨rfl,dt hd⟩,⟨hx,hy,trivial⟩,vq hp,pB hnx,rfl⟩
theorem Gt {o:Nat} {ys zs:List α} {c:C} (ls:List Nat) [ei P t e sz by_] (H:da by_ (ys++zs).length=true) (hzd:zs.map enc=zd:=by exact rfl) (henc:∀a,(enc a).length=sz:=by exact λ_=>rfl) (hfl:∀a,tM (enc a)=true:=by exact λ_=>rfl)
 (hp:vp ob ls=some nob:=by exact rfl) (hd:nlt d N=true:=by exact rfl) (hx:opT sl x= .v (.c (.w o n)):=by exact rfl) (hy:opT sl y= .v (.c c):=by exact rfl) (hn:ys.length=n:=by first|rfl|simp) (hs:Src nob c zd gy:=by first|exact .d|exact .nil|exact .w rfl (by first|rfl|exact lm _|simp)|exact .wn rfl (by first|rfl|exact lm _|simp)) (ho:go nob o=some (.row e sz (ys.map enc) g true):=by exact rfl) (hrv:rsv o=false:=by exact rfl) (hnx:nxt nx=some nx':=by exact rfl):
 NX P N ⟨some d,.call ⟨.builtin .append,#[x,y],#[t,t]⟩,ty,ps,af,gd⟩ ⟨sl,ob,nx⟩ ⟨(d,.v (.c (.w nx (ys++zs).length)))::sl,(nx,.row e sz ((ys++zs).map enc) true true)::ob,nx'⟩
  ⟨⟨d,[(x,.v (.c (.w o n))),(y,.v (.c c))],nob,.v (.c (.w nx (ys++zs).length)),[(nx,.row e sz ((ys++zs).map enc) true true)]⟩,[],some o⟩:=by
 obtain⟨h1,h2,h3,h4,h5,h6⟩:=apx (P:=P) (N:=N) (t:=t) (x:=x) (y:=y) (enc:=enc) (d:=d) (ty:=ty) (ps:=ps) (af:=af) (gd:=gd) (sl:=sl) (ob:=ob) (nx:=nx) ls H hzd henc hp hd hx hy hn hs ho rfl hrv hnx
 refine⟨?_,h2,h3,h4,pB hnx,rfl⟩
 intro cx E a w ok hne hnob hfr
 refine Oper.wp_mono ?_ (h1 cx E a w ok hne hnob (λl x hm=>by simp_all))
 rintro a' w' ⟨v,E',k1,k2,k3,k4,k5,k6,k7⟩
 refine⟨v,E',k1,k2,k3,k4,λl x hm=>?_,k6,λl x hl=>(k7 l x hl).imp id (λ⟨x',hm⟩=>by simp_all)⟩
 simp at hm;obtain⟨rfl,rfl⟩:=hm
 obtain⟨b,c,arr,j1,j2,j3,j4,j5,j6,j7,j8,j9⟩:=k5 _ _ (.head _)
 refine⟨b,c,arr,j1,j2,j3,by simp_all,j5,by simp_all,?_,j8,λh=>by cases h⟩
 have:rdLL w' (E'.H true) ((ys++zs).map enc) b 0:=yU (λe he=>by grind) j7
 simp_all
end
theorem de {o:Nat} {ob:Laa} {cs':List C} {e:Lac} (ho:go ob o=some (.var ty cs):=by exact rfl) (hv:M4 ob cs=some (cs',e):=by exact rfl) (he:Eqs e:=by repeat (first|exact trivial|refine⟨by first|rfl|exact lm _|simp,?_⟩)):dQ N ⟨sl,ob,nx⟩ ⟨sl,(o,.var ty cs')::ob,nx⟩:=by
 intro cx E a w hR
 refine⟨E,hR.ok,hR.dom,λp x h=>?_,hR.sl,hR.dfr,hR.size,hR.td⟩
 by_cases hp:o=p
 .subst hp
  rw[cI] at h;cases h
  obtain⟨b,c,arr,h1,h2,h3,h4⟩:=hR.obs o _ ho
  exact⟨b,c,arr,h1,h2,II hR.obs hv he h3,h4⟩
 rw[b7 _ _ hp] at h;exact hR.obs p x h
theorem uI {ob:Laa} (h:aar nx nx'=true):dQ N ⟨sl,ob,nx⟩ ⟨sl,ob,nx'⟩:=by
 intro cx E a w hR
 have:=aaF h
 exact⟨E,hR.ok,λo x ho=>aay (hR.dom o x ho) this,hR.obs,hR.sl,hR.dfr,hR.size,λl b hb=>aay (hR.td l b hb) this⟩
theorem dJ.setN {cx:Cx} (ok:dJ cx E w) (n:Nat->Prop):dJ cx {E with n:=n} w:=
 ⟨ok.fb,ok.gf,ok.gn,ok.rb,ok.inj,ok.os,ok.tape,ok.output,ok.size,ok.block,ok.pin,ok.ff,ok.gc,⟨ok.sf.tb,ok.sf.tt,ok.sf.zc,ok.sf.zs,ok.sf.ze⟩⟩
def qA (f:C->Option C):List C->Option (List C)
 |[]=>some []
 |c::cs=>match f c,qA f cs with
  |some x,some xs=>some (x::xs)
  |_,_=>none
def Jg (f:C->Option C):V->Option V
 | .c c=>match f c with
  |some x=>some (.c x)
  |none=>none
 | .agg cs=>match qA f cs with
  |some x=>some (.agg x)
  |none=>none
def CW (f:C->Option C):List V->Option (List V)
 |[]=>some []
 |c::cs=>match Jg f c,CW f cs with
  |some x,some xs=>some (x::xs)
  |_,_=>none
def zw (f:C->Option C):T->Option T
 | .v v=>match Jg f v with
  |some x=>some (.v x)
  |none=>none
 | .tup vs=>match CW f vs with
  |some x=>some (.tup x)
  |none=>none
 | .any=>some .any
def An (f:C->Option C):Lab->Option Lab
 |[]=>some []
 |(k,t)::r=>match zw f t,An f r with
  |some x,some xs=>some ((k,x)::xs)
  |_,_=>none
def ye (f:C->Option C) (g:Nat->Ob->Option Ob):Laa->Option Laa
 |[]=>some []
 |(k,.var t cs)::r=>match qA f cs,ye f g r with
  |some x,some xs=>some ((k,.var t x)::xs)
  |_,_=>none
 |(k,.row t sz els gg m)::r=>match g k (.row t sz els gg m),ye f g r with
  |some x,some xs=>some ((k,x)::xs)
  |_,_=>none
 |(k,.rown t sz els gg)::r=>match g k (.rown t sz els gg),ye f g r with
  |some x,some xs=>some ((k,x)::xs)
  |_,_=>none
 |(k,.abs j y)::r=>match g k (.abs j y),ye f g r with
  |some x,some xs=>some ((k,x)::xs)
  |_,_=>none
section
variable {f:C->Option C} {E E':Env} {w w':World} (hf:∀c c' u,f c=some c'->cvC E w c u->cvC E' w' c' u)
include hf
theorem vm:∀{cs cs':List C} {us:Lae},qA f cs=some cs'->CV E w cs us->CV E' w' cs' us
 |[],cs',us,h,hc=>by
  simp[qA] at h;subst h
  cases us with
  |nil=>trivial
  |cons _ _=>exact hc.elim
 |c::cs,cs',us,h,hc=>by
  cases us with
  |nil=>exact hc.elim
  |cons u us=>
   simp only[qA] at h
   split at h
   .rename_i h1 h2;simp at h;subst h;exact⟨hf _ _ _ h1 hc.1,vm h2 hc.2⟩
   cases h
theorem Pi {v v':V} (h:Jg f v=some v') (hv:cvV E w v u):cvV E' w' v' u:=by
 cases v with
 |c c=>
  simp only[Jg] at h
  split at h
  .rename_i h1;simp at h;subst h;exact hf _ _ _ h1 hv
  cases h
 |agg cs=>
  simp only[Jg] at h
  split at h
  .rename_i h1;simp at h;subst h;obtain⟨arr,hu,hc⟩:=hv;exact⟨arr,hu,vm hf h1 hc⟩
  cases h
theorem Lp:∀{cs cs':List V} {us:Lae},CW f cs=some cs'->VV E w cs us->VV E' w' cs' us
 |[],cs',us,h,hc=>by
  simp[CW] at h;subst h
  cases us with
  |nil=>trivial
  |cons _ _=>exact hc.elim
 |c::cs,cs',us,h,hc=>by
  cases us with
  |nil=>exact hc.elim
  |cons u us=>
   simp only[CW] at h
   split at h
   .rename_i h1 h2;simp at h;subst h;exact⟨Pi hf h1 hc.1,Lp h2 hc.2⟩
   cases h
theorem Bk {v v':T} (h:zw f v=some v') (hv:cvT E w v u):cvT E' w' v' u:=by
 cases v with
 |v v=>
  simp only[zw] at h
  split at h
  .rename_i h1;simp at h;subst h;exact Pi hf h1 hv
  cases h
 |tup vs=>
  simp only[zw] at h
  split at h
  .rename_i h1;simp at h;subst h;obtain⟨arr,hu,hc⟩:=hv;exact⟨arr,hu,Lp hf h1 hc⟩
  cases h
 |any=>simp[zw] at h;subst h;trivial
theorem Bj {k:Nat} {u:Value}:∀{sl sl':Lab},An f sl=some sl'->cvT E w (gt sl k) u->cvT E' w' (gt sl' k) u
 |[],sl',h,_=>by simp[An] at h;subst h;trivial
 |(j,t)::r,sl',h,hc=>by
  simp only[An] at h
  split at h
  .rename_i h1 h2
   simp at h;subst h
   by_cases hj:j=k
   .subst hj;rw[dR] at hc ⊢;exact Bk hf h1 hc
   rw[c9 _ _ hj] at hc ⊢;exact Bj h2 hc
  cases h
end
theorem wl {f:C->Option C} {g:Nat->Ob->Option Ob} {l:Nat} {y:Ob}:∀{ob ob':Laa},ye f g ob=some ob'->go ob' l=some y->
 (∃t cs cs',go ob l=some (.var t cs)/\qA f cs=some cs'/\y= .var t cs')\/(∃x,go ob l=some x/\(∀t cs,x≠.var t cs)/\g l x=some y)
 |[],ob',h,hy=>by simp[ye] at h;subst h;cases hy
 |(k,x)::r,ob',h,hy=>by
  cases x with
  |var t cs=>
   simp only[ye] at h
   split at h
   .rename_i h1 h2
    simp at h;subst h
    by_cases hk:k=l
    .subst hk;rw[cI] at hy ⊢;grind
    rw[b7 _ _ hk] at hy ⊢;exact wl h2 hy
   cases h
  |row t sz els gg m=>
   simp only[ye] at h
   split at h
   .rename_i h1 h2
    simp at h;subst h
    by_cases hk:k=l
    .subst hk;rw[cI] at hy ⊢;simp_all
    rw[b7 _ _ hk] at hy ⊢;exact wl h2 hy
   cases h
  |rown t sz els gg=>
   simp only[ye] at h
   split at h
   .rename_i h1 h2
    simp at h;subst h
    by_cases hk:k=l
    .subst hk;rw[cI] at hy ⊢;simp_all
    rw[b7 _ _ hk] at hy ⊢;exact wl h2 hy
   cases h
  |abs j z=>
   simp only[ye] at h
   split at h
   .rename_i h1 h2
    simp at h;subst h
    by_cases hk:k=l
    .subst hk;rw[cI] at hy ⊢;simp_all
    rw[b7 _ _ hk] at hy ⊢;exact wl h2 hy
   cases h
def R8 (o:Nat):C->Option C
 | .w l n=>match d0 l o with
  |true=>some (.wn l n)
  |false=>some (.w l n)
 | .wn l n=>match d0 l o with
  |true=>some .any
  |false=>some (.wn l n)
 |c=>some c
def Wb (o:Nat) (k:Nat):Ob->Option Ob
 | .row t sz els g true=>match d0 k o with
  |true=>some (.rown t sz els g)
  |false=>some (.row t sz els g true)
 |x=>some x
theorem d8 {rt:Nat} {ob:Laa} (o:Nat) (ho:go ob o=some (.row rt sz els g true):=by exact rfl) (hs:An (R8 o) sl=some sl':=by exact rfl) (hb:ye (R8 o) (Wb o) ob=some ob':=by exact rfl):dQ N ⟨sl,ob,nx⟩ ⟨sl',ob',nx⟩:=by
 intro cx E a w hR
 have hf:∀c c' u,R8 o c=some c'->cvC E w c u->cvC {E with n:=λl=>l≠o/\E.n l} w c' u:=by
  intro c c' u h hc
  cases c with
  |w l n=>
   simp only[R8] at h
   split at h
   .rename_i hb
    have:=aad hb
    subst this
    cases h
    exact .inr ⟨λh=>h.1 rfl,hc⟩
   cases h;exact hc
  |wn l n=>
   simp only[R8] at h
   split at h
   .cases h;trivial
   rename_i hb
   have:=jl hb
   cases h
   rcases hc with⟨h1,h2⟩|⟨h1,h2⟩
   .exact .inl ⟨⟨this,h1⟩,h2⟩
   exact .inr ⟨λh=>h1 h.2,h2⟩
  |_=>simp only[R8] at h;cases h;exact hc
 refine⟨{E with n:=λl=>l≠o/\E.n l},hR.ok.setN _,hR.dom,λl y hl=>?_,λk=>Bj hf hs (hR.sl k),hR.dfr,hR.size,hR.td⟩
 rcases wl hb hl with⟨t,cs,cs',h1,h2,rfl⟩|⟨x,h1,h2,h3⟩
 .obtain⟨b,c,arr,k1,k2,k3,k4⟩:=hR.obs l _ h1
  exact⟨b,c,arr,k1,k2,vm hf h2 k3,k4⟩
 have hx:=hR.obs l x h1
 cases x with
 |var t cs=>simp_all
 |row t sz els g m=>
  cases m with
  |true=>
   simp only[Wb] at h3
   split at h3
   .rename_i hb
    have:=aad hb
    subst this
    cases h3
    obtain⟨b,c,arr,k1,k2,k3,k4,k5,k6,k7,k8,_⟩:=hx
    exact .inr ⟨λh=>h.1 rfl,b,c,arr,k1,k2,k3,k4,k5,k6,k7,k8 rfl⟩
   cases h3;exact hx
  |false=>simp only[Wb] at h3;cases h3;exact hx
 |rown t sz els g=>
  simp only[Wb] at h3
  cases h3
  have hlo:l≠o:=λe=>by simp_all
  rcases hx with⟨k1,k2⟩|⟨k1,k2⟩
  .exact .inl ⟨⟨hlo,k1⟩,k2⟩
  exact .inr ⟨λh=>k1 h.2,k2⟩
 |abs j y=>
  simp only[Wb] at h3
  cases h3
  have hlo:l≠o:=λe=>by simp_all
  rcases hx with⟨k1,k2⟩|⟨k1,k2⟩
  .exact .inl ⟨⟨hlo,k1⟩,k2⟩
  exact .inr ⟨λh=>k1 h.2,k2⟩
def Wf (o:Nat):C->Option C
 | .wn l n=>match d0 l o with
  |true=>some (.w l n)
  |false=>some (.wn l n)
 |c=>some c
def YF (o:Nat) (k:Nat):Ob->Option Ob
 | .rown t sz els g=>match d0 k o with
  |true=>some (.row t sz els g true)
  |false=>some (.rown t sz els g)
 |x=>some x
theorem lU {ty:Nat} {ob:Laa} (o:Nat) (ho:go ob o=some (.rown ty sz els g):=by exact rfl) (hne:els≠[]) (hs:An (Wf o) sl=some sl':=by exact rfl) (hb:ye (Wf o) (YF o) ob=some ob':=by exact rfl):dQ N ⟨sl,ob,nx⟩ ⟨sl',ob',nx⟩:=by
 intro cx E a w hR
 have hn:¬E.n o:=by
  rcases hR.obs o _ ho with⟨_,h⟩|⟨h,_⟩
  .simp_all
  exact h
 have hf:∀c c' u,Wf o c=some c'->cvC E w c u->cvC E w c' u:=by
  intro c c' u h hc
  cases c with
  |wn l n=>
   simp only[Wf] at h
   split at h
   .rename_i hb
    have:=aad hb
    subst this
    cases h
    rcases hc with⟨h1,_⟩|⟨_,h2⟩
    .simp_all
    exact h2
   simp_all
  |_=>simp only[Wf] at h;simp_all
 refine⟨E,hR.ok,hR.dom,λl y hl=>?_,λk=>Bj hf hs (hR.sl k),hR.dfr,hR.size,hR.td⟩
 rcases wl hb hl with⟨t,cs,cs',h1,h2,rfl⟩|⟨x,h1,h2,h3⟩
 .obtain⟨b,c,arr,k1,k2,k3,k4⟩:=hR.obs l _ h1
  exact⟨b,c,arr,k1,k2,vm hf h2 k3,k4⟩
 have hx:=hR.obs l x h1
 cases x with
 |var t cs=>simp_all
 |row t sz els g m=>simp only[YF] at h3;simp_all
 |rown t sz els g=>
  simp only[YF] at h3
  split at h3
  .rename_i hb
   have:=aad hb
   subst this
   cases h3
   rcases hx with⟨k1,k2⟩|⟨_,b,c,arr,k1,k2,k3,k4,k5,k6,k7,k8⟩
   .simp_all
   exact⟨b,c,arr,k1,k2,k3,k4,k5,k6,k7,λ_=>k8,λh=>by cases h⟩
  simp_all
 |abs j y=>simp only[YF] at h3;simp_all
def Ds (n:Nat):Lab->Bool
 |[]=>true
 |(_,t)::r=>t.lt n&&Ds n r
def zP (n:Nat):Laa->Bool
 |[]=>true
 |(l,x)::r=>(nlt l n&&x.lt n)&&zP n r
theorem P6 {n:Nat}:∀{sl:Lab} (k:Nat),Ds n sl=true->(gt sl k).lt n=true
 |[],k,_=>rfl
 |(j,t)::r,k,h=>by
  simp only[Ds,hV] at h
  by_cases hj:j=k
  .subst hj;rw[dR];exact h.1
  rw[c9 _ _ hj];exact P6 k h.2
theorem yi {n:Nat}:∀{ob:Laa} {l:Nat} {x:Ob},zP n ob=true->go ob l=some x->l<n/\x.lt n=true
 |(k,y)::r,l,x,h,hl=>by
  simp only[zP,hV] at h
  by_cases hk:k=l
  .subst hk;rw[cI] at hl;cases hl;exact⟨dt h.1.1,h.1.2⟩
  rw[b7 _ _ hk] at hl;exact yi h.2 hl
section
variable {E:Env} {w:World} {n:Nat} {p:Nat->Prop} (hp:∀l,l<n->(p l↔E.n l))
include hp
theorem KF {c:C} (hl:c.lt n=true) (h:cvC E w c u):cvC {E with n:=p} w c u:=by
 cases c with
 |wn o m=>
  have:=hp o (dt hl)
  rcases h with⟨h1,h2⟩|⟨h1,h2⟩
  .exact .inl ⟨this.2 h1,h2⟩
  exact .inr ⟨λk=>h1 (this.1 k),h2⟩
 |_=>exact h
theorem Ig:∀{cs:List C} {us:Lae},cs.all (C.lt n)=true->CV E w cs us->CV {E with n:=p} w cs us
 |[],[],_,_=>trivial
 |c::cs,u::us,hl,h=>by
  simp only[aaE,hV] at hl
  exact⟨KF hp hl.1 h.1,Ig hl.2 h.2⟩
 |[],_::_,_,h=>h.elim
 |_::_,[],_,h=>h.elim
theorem KH {v:V} (hl:v.lt n=true) (h:cvV E w v u):cvV {E with n:=p} w v u:=by
 cases v with
 |c c=>exact KF hp hl h
 |agg cs=>obtain⟨arr,hu,h⟩:=h;exact⟨arr,hu,Ig hp hl h⟩
theorem Ow:∀{cs:List V} {us:Lae},cs.all (V.lt n)=true->VV E w cs us->VV {E with n:=p} w cs us
 |[],[],_,_=>trivial
 |c::cs,u::us,hl,h=>by
  simp only[aaE,hV] at hl
  exact⟨KH hp hl.1 h.1,Ow hl.2 h.2⟩
 |[],_::_,_,h=>h.elim
 |_::_,[],_,h=>h.elim
theorem Tt {t:T} (hl:t.lt n=true) (h:cvT E w t u):cvT {E with n:=p} w t u:=by
 cases t with
 |v v=>exact KH hp hl h
 |tup ts=>obtain⟨arr,hu,h⟩:=h;exact⟨arr,hu,Ow hp hl h⟩
 |any=>trivial
theorem ND {o:Nat} (ho:o<n) (hl:x.lt n=true) (h:df E w o x):df {E with n:=p} w o x:=by
 cases x with
 |var t cs=>obtain⟨b,c,arr,k1,k2,k3,k4⟩:=h;exact⟨b,c,arr,k1,k2,Ig hp hl k3,k4⟩
 |row t sz els g m=>exact h
 |rown t sz els g=>
  rcases h with⟨h1,h2⟩|⟨h1,h2⟩
  .exact .inl ⟨(hp o ho).2 h1,h2⟩
  exact .inr ⟨λk=>h1 ((hp o ho).1 k),h2⟩
 |abs j y=>
  rcases h with⟨h1,h2⟩|⟨h1,h2⟩
  .exact .inl ⟨(hp o ho).2 h1,h2⟩
  exact .inr ⟨λk=>h1 ((hp o ho).1 k),h2⟩
end
theorem rel_nn {ty sz:Nat} {g:Bool} {ob:Laa} (hs:Ds nx sl=true) (hb:zP nx ob=true) (hq:nxt nx=some nx') {cx:Cx} (hR:Rel N cx E ⟨sl,ob,nx⟩ a w):
 Rel N cx {E with n:=λl=>l=nx\/E.n l} ⟨sl,(nx,.rown ty sz [] g)::ob,nx'⟩ a w:=by
 have hp:∀l,l<nx->((l=nx\/E.n l)↔E.n l):=λl h=>⟨λk=>k.resolve_left oaa,.inr⟩
 have hn:nx'=nx+1:=by
  unfold nxt at hq
  cases hr:rsv nx with
  |true=>simp_all
  |false=>simp_all
 refine⟨hR.ok.setN _,λo x h=>by have:=hR.dom o x h;grind,λl x hl=>?_,λk=>Tt hp (P6 k hs) (hR.sl k),hR.dfr,hR.size,λl b h=>by have:=hR.td l b h;grind⟩
 by_cases e:nx=l
 .subst e;rw[cI] at hl;cases hl;exact .inl ⟨.inl rfl,rfl⟩
 rw[b7 _ _ e] at hl
 obtain⟨h1,h2⟩:=yi hb hl
 exact ND hp h1 h2 (hR.obs l x hl)
def RQ:Nat->C->List C->Option (List C)
 |0,x,.nil::cs=>some (x::cs)
 |j+1,x,c::cs=>match RQ j x cs with
  |some r=>some (c::r)
  |none=>none
 |_,_,_=>none
theorem JT {E E':Env} {w:World} {x:C} (hx:cvC E' w x (.slice none 0 0)):∀{j:Nat} {cs cs':List C} {us:Lae},RQ j x cs=some cs'->CV E w cs us->CV E' w cs us->CV E' w cs' us
 |0,.nil::cs,cs',us,h,h1,h2=>by
  simp[RQ] at h;subst h
  cases us with
  |nil=>exact h1.elim
  |cons u us=>have:u= .slice none 0 0:=h1.1;subst this;exact⟨hx,h2.2⟩
 |j+1,c::cs,cs',us,h,h1,h2=>by
  simp only[RQ] at h
  split at h
  .rename_i h3
   simp at h;subst h
   cases us with
   |nil=>exact h1.elim
   |cons u us=>exact⟨h2.1,JT hx h3 h1.2 h2.2⟩
  cases h
theorem dE {o:Nat} {ob:Laa} {vt:TypeId} {cs':List C} (ty sz:Nat) (g:Bool) (ho:go ob o=some (.var vt cs):=by exact rfl) (hj:RQ j (.wn nx 0) cs=some cs':=by exact rfl) (hs:Ds nx sl=true:=by exact rfl) (hb:zP nx ob=true:=by exact rfl) (hq:nxt nx=some nx':=by exact rfl):
 dQ N ⟨sl,ob,nx⟩ ⟨sl,(o,.var vt cs')::(nx,.rown ty sz [] g)::ob,nx'⟩:=by
 intro cx E a w hR
 have h:=rel_nn (ty:=ty) (sz:=sz) (g:=g) hs hb hq hR
 refine⟨_,h.ok,h.dom,λl x hl=>?_,h.sl,h.dfr,h.size,h.td⟩
 by_cases e:o=l
 .subst e
  rw[cI] at hl;cases hl
  have hne:nx≠o:=λe=>by have:=(yi hb ho).1;omega
  have h2:=h.obs o (.var vt cs) (by rw[b7 _ _ hne];exact ho)
  obtain⟨b,c,arr,k1,k2,k3,k4⟩:=hR.obs o _ ho
  obtain⟨b',c',arr',m1,m2,m3,m4⟩:=h2
  have k1':E.r o=some (b',c'):=m1
  rw[k1] at k1';cases k1'
  rw[k2] at m2;cases m2
  exact⟨b,c,arr,k1,k2,JT (x:=.wn nx 0) (Or.inl ⟨Or.inl rfl,rfl,rfl⟩) hj k3 m3,k4⟩
 rw[b7 _ _ e] at hl;exact h.obs l x hl
section
variable {P:Program} {N:Nat} {d:Tmp} {ty:TypeId} {ps:String} {af:Array Edge} {gd:Option (Nat×Bool)} {x y z:Operand} {sl:Lab} {ob:Laa} {nx:Nat}
theorem UL {d:Option Tmp} {o:Nat} [ht:ei P t e sz by_]:AWN P ⟨d,.call ⟨.builtin .len,#[x],#[t]⟩,ty,ps,af,gd⟩ [(x,.v (.c (.wn o n)))] [] (tI n) []:=
 cE λE ac w hn _=>by
  rcases hn x _ (.head _) with⟨_,h0,hu⟩|⟨_,b,c,hr,hu⟩
  .subst h0;exact⟨_,by simp[execOp,resolve,invoke,builtin,hu,Builtin.len_,underlying,ht.u,goInt];rfl,by rfl⟩
  exact⟨_,by simp[execOp,resolve,invoke,builtin,hu,Builtin.len_,underlying,ht.u,goInt];rfl,by rfl⟩
theorem lwn {o:Nat} [ei P t e sz by_] (hx:opT sl x= .v (.c (.wn o n))) (hN:nlt d N=true):NS0 P N ⟨some d,.call ⟨.builtin .len,#[x],#[t]⟩,ty,ps,af,gd⟩ sl ob nx d (tI n) ⟨d,[(x,.v (.c (.wn o n)))],[],tI n,[]⟩:=dS (st:=⟨sl,ob,nx⟩) UL rfl hN ⟨hx,trivial⟩ trivial rfl
theorem Ly {o:Nat} {ys:Lad} {c:C} [ht:ei P t e sz by_] (hrv:rsp o=false) (hnv:rsv st.nx=false) (hd:d<N)
 (hx:opT st.sl x= .v (.c (.wn o n))) (hy:opT st.sl y= .v (.c c)) (ho:go st.ob o=some (.rown e sz els g)) (hs:Src st.ob c ys gy) (hk:oF o st.sl=some sl') (hkb:ml o st.ob=some ob')
 (hn:els.length=n) (hne:ys≠[]) (hol:o<st.nx) (hsz:∀e∈ys,e.length=sz) (hb:(n+ys.length)*by_<=140737488355328) (h63:n+ys.length<=9223372036854775807):
 AWO P N ⟨some d,.call ⟨.builtin .append,#[x,y],#[t,t]⟩,ty,ps,af,gd⟩ st ⟨(d,.v (.c (.w o (n+ys.length))))::sl',(o,.row e sz (els++ys) (g&&gy) true)::ob',st.nx⟩:=by
 intro cx E a w hR
 have h1:=hR.op x;rw[hx] at h1
 have h2:=hR.op y;rw[hy] at h2
 have h3:=hR.obs o _ ho
 rcases h1 with⟨hE,h0,hu⟩|⟨hE,b,cc,hr,hu⟩
 .subst h0
  have hels:els=[]:=aaQ hn
  subst hels
  have hq1:E.r st.nx=none:=by
   cases hq:E.r st.nx with
   |none=>rfl
   |some p=>have:=hR.dom _ _ hq;omega
  have hoq:o≠st.nx:=by omega
  refine Oper.wp_mono ?_ (w9 (P:=P) (d:=d) (ty:=ty) (ps:=ps) (af:=af) (gd:=gd) (t:=t) (q:=st.nx) hs hne hsz (by simp_all) oaa hR.ok hR.obs hq1 hnv hu h2)
  rintro a' w' ⟨v,E1,rfl,ok1,ext,hv,hob1,hdom⟩
  obtain⟨bn,cap,hrq,hvu⟩:=hv
  obtain⟨bn',cap',arr,hrq',hhn,j3,j4,j5,j6,j7,j8,_⟩:=hob1 _ _ (.head _)
  rw[hrq] at hrq';cases hrq'
  have hrE:∀l p,E1.r l=some p->l=st.nx\/E.r l=some p:=λl p h=>by
   grind
  let E2:Env:={E1 with r:=λl=>if l=o then some (bn,cap) else if l=st.nx then none else E1.r l,n:=λl=>l≠o/\E.n l}
  have hr2:∀l b c,E2.r l=some (b,c)->(l=o/\b=bn/\c=cap)\/(l≠o/\l≠st.nx/\E1.r l=some (b,c)):=by
   intro l b c h
   have h:(if l=o then some (bn,cap) else if l=st.nx then none else E1.r l)=some (b,c):=h
   split at h
   .simp_all
   simp_all
  have hback:∀l b c,E2.r l=some (b,c)->∃l',E1.r l'=some (b,c):=by
   intro l b c h
   rcases hr2 l b c h with⟨_,rfl,rfl⟩|⟨_,_,h⟩
   .grind
   grind
  have ok2:dJ cx E2 w':=by
   refine⟨ok1.fb,ok1.gf,ok1.gn,λl b c h=>?_,λl l' b c c' h h'=>?_,ok1.os,ok1.tape,ok1.output,ok1.size,ok1.block,λl p hv h=>?_,ok1.ff,ok1.gc,⟨λl b h=>?_,ok1.sf.tt,λb h=>?_,ok1.sf.zs,ok1.sf.ze⟩⟩
   .rcases hr2 l b c h with⟨_,rfl,rfl⟩|⟨_,_,h⟩
    .obtain⟨k1,k2⟩:=ok1.rb _ _ _ hrq
     simp_all
    exact ok1.rb l b c h
   .rcases hr2 l b c h with⟨rfl,rfl,rfl⟩|⟨k1,k2,k3⟩<;>rcases hr2 l' _ c' h' with⟨rfl,e1,e2⟩|⟨m1,m2,m3⟩
    .rfl
    .exact absurd (ok1.inj _ _ _ _ _ m3 hrq) m2
    .subst e1;exact absurd (ok1.inj _ _ _ _ _ k3 hrq) k2
    exact ok1.inj _ _ _ _ _ k3 m3
   .obtain⟨b,c⟩:=p
    rcases hr2 l b c h with⟨rfl,_⟩|⟨_,_,h⟩
    .simp_all
    exact ok1.pin l _ hv h
   .obtain⟨k1,k2,k3,k4⟩:=ok1.sf.tb l b h
    grind
   obtain⟨k1,k2,k3,k4⟩:=ok1.sf.zc b h
   grind
  have kp:=kQ.of_ext hR.ok ext
  have kb:nO o E w E2 w':=⟨λl p hl h=>by
   show(if l=o then some (bn,cap) else if l=st.nx then none else E1.r l)=some p
   rw[if_neg hl,if_neg (λe=>by simp_all)]
   exact kp.r _ _ h,kp.H,kp.heap,kp.T,kp.Z,λl hl=>⟨λh=>h.2,λh=>⟨hl,h⟩⟩⟩
  have hFb:∀b,b<w.heap.size->¬E.F b->¬E2.F b:=λb hb hn h=>(ext.F' b h).elim hn oaa
  refine⟨E2,ok2,λl p h=>?_,λl ob hl=>?_,λk=>?_,hR.dfr,by simpa [Act.put] using hR.size,λl b h=>hR.td l b (by rw[<-ext.T];exact h)⟩
  .obtain⟨b,c⟩:=p
   rcases hr2 l b c h with⟨rfl,_⟩|⟨_,k2,h⟩
   .exact hol
   rcases hrE _ _ h with h|h
   .omega
   exact hR.dom _ _ h
  .by_cases hlo:o=l
   .subst hlo
    rw[cI] at hl;cases hl
    refine⟨bn,cap,arr,by grind,hhn,j3,by simp_all,j5,by simp_all,?_,λ_=>j8 rfl,λh=>by cases h⟩
    simp only[abb]
    exact cT (λ_ _=>rfl) (λb hb=>by cases g<;>cases gy<;>first|exact hb|exact ok1.gf b hb) rfl _ _ j7
   rw[b7 _ _ hlo] at hl
   rcases vl hkb hl with⟨t',cs,cs',k1,k2,rfl⟩|⟨t',sz',els',g',m',k1,rfl⟩|⟨t',sz',els',g',k1,rfl⟩|⟨j',y',k1,rfl⟩
   .obtain⟨bl,cl,arrl,l1,l2,l3,l4⟩:=hR.obs l _ k1
    have hbl:=(hR.ok.rb _ _ _ l1).1
    exact⟨bl,cl,arrl,kb.r _ _ (Ne.symm hlo) l1,(ext.heap bl hbl).trans l2,y3 kb k2 l3,hFb bl hbl l4⟩
   .obtain⟨bl,cl,arrl,l1,l2,l3,l4,l5,l6,l7,l8,l9⟩:=hR.obs l _ k1
    have hbl:=(hR.ok.rb _ _ _ l1).1
    have hb2:=ext.heap bl hbl
    exact⟨bl,cl,arrl,kb.r _ _ (Ne.symm hlo) l1,hb2.trans l2,l3,l4,l5,l6,cT (kb.heap _) (kb.H _) hb2 _ _ l7,λhm=>hFb bl hbl (l8 hm),λhm=>⟨kb.H false _ (l9 hm).1,λhg=>kb.H true _ ((l9 hm).2 hg)⟩⟩
   .rcases hR.obs l _ k1 with⟨m1,m2⟩|⟨l0,bl,cl,arrl,l1,l2,l3,l4,l5,l6,l7,l8⟩
    .exact .inl ⟨⟨Ne.symm hlo,m1⟩,m2⟩
    have hbl:=(hR.ok.rb _ _ _ l1).1
    have hb2:=ext.heap bl hbl
    exact .inr ⟨λh=>l0 h.2,bl,cl,arrl,kb.r _ _ (Ne.symm hlo) l1,hb2.trans l2,l3,l4,l5,l6,cT (kb.heap _) (kb.H _) hb2 _ _ l7,hFb bl hbl l8⟩
   rcases hR.obs l _ k1 with⟨m1,m2⟩|⟨l0,bl,cl,l1,l2,l3⟩
   .exact .inl ⟨⟨Ne.symm hlo,m1⟩,m2⟩
   have hbl:=(hR.ok.rb _ _ _ l1).1
   have hb2:=ext.heap bl hbl
   exact .inr ⟨λh=>l0 h.2,bl,cl,kb.r _ _ (Ne.symm hlo) l1,y'.st _ _ _ _ _ _ l2 (λk hk=>(kb.T _ k hk).1) hb2 (λk hk=>(kb.T _ k hk).2),hFb bl hbl l3⟩
  rw[iv (by rw[hR.size];exact hd)]
  by_cases hdk:d=k
  .subst hdk;rw[dR,if_pos rfl];exact⟨bn,cap,by grind,by simp_all⟩
  rw[c9 _ _ hdk,if_neg hdk]
  rcases yb hk k with h|⟨h,h'⟩
  .rw[h];trivial
  rw[h];exact IC kb h' (hR.sl k)
 rcases h3 with⟨hE',_⟩|⟨_,b',c',arr,hr',hh,ha,hlc,hmx,hes,hrd,hF⟩
 .simp_all
 rw[hr] at hr';cases hr'
 exact CK hR hrv hd hr hu hh ha hlc hmx hes hrd hF hy hs hk hkb hn hsz hb h63
variable {α:Type} {enc:α->List D}
theorem AJ {o:Nat} {ys zs:List α} {gg:Bool} {c:C} [ei P t e sz by_] (H:da by_ (ys++zs).length=true) (hne:zs≠[]) (hzd:zs.map enc=zd) (henc:∀a,(enc a).length=sz) (hn:ys.length=n) (hs:Src ob c zd gy) (hd:nlt d N=true)
 (hx:opT sl x= .v (.c (.wn o n))) (hy:opT sl y= .v (.c c)) (ho:go ob o=some (.rown e sz (ys.map enc) g)) (hk:oF o sl=some sl') (hkb:ml o ob=some ob') (hg:(g&&gy)=gg) (hrv:rsp o=false) (hnv:rsv nx=false) (hol:nlt o nx=true):
 AWO P N ⟨some d,.call ⟨.builtin .append,#[x,y],#[t,t]⟩,ty,ps,af,gd⟩ ⟨sl,ob,nx⟩ ⟨(d,.v (.c (.w o (ys++zs).length)))::sl',(o,.row e sz ((ys++zs).map enc) gg true)::ob',nx⟩:=by
 subst hzd;subst hg
 simp only[da,decide_eq_true_eq,aaz] at H
 have:=Ly (st:=⟨sl,ob,nx⟩) (P:=P) (N:=N) (d:=d) (ty:=ty) (ps:=ps) (af:=af) (gd:=gd) (t:=t) (e:=e) (sz:=sz) (by_:=by_) hrv hnv (dt hd) hx hy ho hs hk hkb (by simp_all) (by simp_all) (dt hol) (Je henc zs) (by simp_all) (by simp_all)
 simp_all
end
def Fr (p q:Nat):C->Option C
 | .w l n=>match d0 l p,d0 l q with
  |true,_=>some .any
  |false,true=>some (.w p n)
  |false,false=>some (.w l n)
 | .wn l n=>match d0 l p,d0 l q with
  |true,_=>some .any
  |false,true=>some (.wn p n)
  |false,false=>some (.wn l n)
 | .s l a b c=>match d0 l p,d0 l q with
  |true,_=>some .any
  |false,true=>some (.s p a b c)
  |false,false=>some (.s l a b c)
 | .p l k=>match d0 l p,d0 l q with
  |true,_=>some .any
  |false,true=>some (.p p k)
  |false,false=>some (.p l k)
 | .e l a b c=>match d0 l p,d0 l q with
  |true,_=>some .any
  |false,true=>some (.e p a b c)
  |false,false=>some (.e l a b c)
 |c=>some c
def Dp (p q:Nat):Laa->Option Laa
 |[]=>some []
 |(k,.var t cs)::r=>match d0 k p,d0 k q,qA (Fr p q) cs,Dp p q r with
  |true,_,_,some r'=>some r'
  |false,true,some cs',some r'=>some ((p,.var t cs')::r')
  |false,false,some cs',some r'=>some ((k,.var t cs')::r')
  |_,_,_,_=>none
 |(k,.row t sz els g m)::r=>match d0 k p,d0 k q,Dp p q r with
  |true,_,some r'=>some r'
  |false,true,some r'=>some ((p,.row t sz els g m)::r')
  |false,false,some r'=>some ((k,.row t sz els g m)::r')
  |_,_,_=>none
 |(k,.rown t sz els g)::r=>match d0 k p,d0 k q,Dp p q r with
  |true,_,some r'=>some r'
  |false,true,some r'=>some ((p,.rown t sz els g)::r')
  |false,false,some r'=>some ((k,.rown t sz els g)::r')
  |_,_,_=>none
 |(k,.abs j y)::r=>match d0 k p,d0 k q,Dp p q r with
  |true,_,some r'=>some r'
  |false,true,some r'=>some ((p,.abs j y)::r')
  |false,false,some r'=>some ((k,.abs j y)::r')
  |_,_,_=>none
def Env.ren (E:Env) (p q:Nat):Env:={E with r:=λl=>if l=p then E.r q else if l=q then none else E.r l,n:=λl=>if l=p then E.n q else E.n l}
def LO (p q l:Nat):Nat:=if l=q then p else l
def Ct (p q:Nat):Ob->Ob->Prop
 | .var t cs,y=>∃cs',qA (Fr p q) cs=some cs'/\y= .var t cs'
 |x,y=>y=x
theorem JE {p q:Nat} (hpq:p≠q) {l:Nat} {y:Ob}:∀{ob ob':Laa},Dp p q ob=some ob'->go ob' l=some y->∃l0 x,l0≠p/\l=LO p q l0/\go ob l0=some x/\Ct p q x y
 |[],ob',h,hy=>by simp[Dp] at h;subst h;cases hy
 |(k,x)::r,ob',h,hy=>by
  have key:∀(x':Ob) (r':Laa),Ct p q x x'->Dp p q r=some r'->(d0 k p=true/\ob'=r')\/(d0 k p=false/\d0 k q=true/\ob'=(p,x')::r')\/(d0 k p=false/\d0 k q=false/\ob'=(k,x')::r')->
   ∃l0 x0,l0≠p/\l=LO p q l0/\go ((k,x)::r) l0=some x0/\Ct p q x0 y:=by
   intro x' r' hx hr hc
   have hrec:go r' l=some y->∃l0 x0,l0≠p/\l=LO p q l0/\go r l0=some x0/\Ct p q x0 y:=λh=>JE hpq hr h
   rcases hc with⟨h1,rfl⟩|⟨h1,h2,rfl⟩|⟨h1,h2,rfl⟩
   .obtain⟨l0,x0,a1,a2,a3,a4⟩:=hrec hy
    have:=aad h1
    subst this
    exact⟨l0,x0,a1,a2,by rw[b7 _ _ (Ne.symm a1)];exact a3,a4⟩
   .have:=aad h2
    subst this
    by_cases e:p=l
    .subst e
     rw[cI] at hy;cases hy
     exact⟨k,x,jl h1,by simp[LO],cI _ _ _,hx⟩
    rw[b7 _ _ e] at hy
    obtain⟨l0,x0,a1,a2,a3,a4⟩:=hrec hy
    have hl0:k≠l0:=λe'=>e (by rw[a2,<-e'];simp[LO])
    exact⟨l0,x0,a1,a2,by rw[b7 _ _ hl0];exact a3,a4⟩
   have hkp:=jl h1
   have hkq:=jl h2
   by_cases e:k=l
   .subst e
    rw[cI] at hy;cases hy
    exact⟨k,x,hkp,by simp[LO,hkq],cI _ _ _,hx⟩
   rw[b7 _ _ e] at hy
   obtain⟨l0,x0,a1,a2,a3,a4⟩:=hrec hy
   have hl0:k≠l0:=λe'=>e (by rw[a2,<-e'];simp[LO,hkq])
   exact⟨l0,x0,a1,a2,by rw[b7 _ _ hl0];exact a3,a4⟩
  cases x with
  |var t cs=>
   simp only[Dp] at h
   split at h
   .rename_i h1 h2
    cases h
    cases hm:qA (Fr p q) cs with
    |some cs'=>exact key (.var t cs') _ ⟨cs',hm,rfl⟩ h2 (.inl ⟨h1,rfl⟩)
    |none=>
     obtain⟨l0,x0,a1,a2,a3,a4⟩:=JE hpq h2 hy
     have:=aad h1
     subst this
     exact⟨l0,x0,a1,a2,by rw[b7 _ _ (Ne.symm a1)];exact a3,a4⟩
   .rename_i h1 h2 h3 h4;cases h;exact key _ _ ⟨_,h3,rfl⟩ h4 (.inr (.inl ⟨h1,h2,rfl⟩))
   .rename_i h1 h2 h3 h4;cases h;exact key _ _ ⟨_,h3,rfl⟩ h4 (.inr (.inr ⟨h1,h2,rfl⟩))
   cases h
  |row t sz els g m=>
   simp only[Dp] at h
   split at h
   .rename_i h1 h2;cases h;exact key _ _ (show Ct p q (.row t sz els g m) (.row t sz els g m) from rfl) h2 (.inl ⟨h1,rfl⟩)
   .rename_i h1 h2 h3;cases h;exact key _ _ (show Ct p q (.row t sz els g m) (.row t sz els g m) from rfl) h3 (.inr (.inl ⟨h1,h2,rfl⟩))
   .rename_i h1 h2 h3;cases h;exact key _ _ (show Ct p q (.row t sz els g m) (.row t sz els g m) from rfl) h3 (.inr (.inr ⟨h1,h2,rfl⟩))
   cases h
  |rown t sz els g=>
   simp only[Dp] at h
   split at h
   .rename_i h1 h2;cases h;exact key _ _ (show Ct p q (.rown t sz els g) (.rown t sz els g) from rfl) h2 (.inl ⟨h1,rfl⟩)
   .rename_i h1 h2 h3;cases h;exact key _ _ (show Ct p q (.rown t sz els g) (.rown t sz els g) from rfl) h3 (.inr (.inl ⟨h1,h2,rfl⟩))
   .rename_i h1 h2 h3;cases h;exact key _ _ (show Ct p q (.rown t sz els g) (.rown t sz els g) from rfl) h3 (.inr (.inr ⟨h1,h2,rfl⟩))
   cases h
  |abs j z=>
   simp only[Dp] at h
   split at h
   .rename_i h1 h2;cases h;exact key _ _ (show Ct p q (.abs j z) (.abs j z) from rfl) h2 (.inl ⟨h1,rfl⟩)
   .rename_i h1 h2 h3;cases h;exact key _ _ (show Ct p q (.abs j z) (.abs j z) from rfl) h3 (.inr (.inl ⟨h1,h2,rfl⟩))
   .rename_i h1 h2 h3;cases h;exact key _ _ (show Ct p q (.abs j z) (.abs j z) from rfl) h3 (.inr (.inr ⟨h1,h2,rfl⟩))
   cases h
theorem Mv {ob:Laa} (p q:Nat) (hp:rsp p=false:=by exact rfl) (hq:rsv q=false:=by exact rfl) (hpq:d0 p q=false:=by exact rfl) (hpn:nlt p nx=true:=by exact rfl) (hs:An (Fr p q) sl=some sl':=by exact rfl) (hb:Dp p q ob=some ob':=by exact rfl):dQ N ⟨sl,ob,nx⟩ ⟨sl',ob',nx⟩:=by
 have hne:=jl hpq
 intro cx E a w hR
 have hrp:(E.ren p q).r p=E.r q:=by simp[Env.ren]
 have hrl:∀l,l≠p->l≠q->(E.ren p q).r l=E.r l:=λl h1 h2=>by simp[Env.ren,h1,h2]
 have hnp:(E.ren p q).n p=E.n q:=by simp[Env.ren]
 have hnl:∀l,l≠p->(E.ren p q).n l=E.n l:=λl h1=>by simp[Env.ren,h1]
 have hr2:∀l b c,(E.ren p q).r l=some (b,c)->(l=p/\E.r q=some (b,c))\/(l≠p/\l≠q/\E.r l=some (b,c)):=by
  intro l b c h
  simp only[Env.ren] at h
  split at h
  .simp_all
  simp_all
 have hf:∀c c' u,Fr p q c=some c'->cvC E w c u->cvC (E.ren p q) w c' u:=by
  intro c c' u h hc
  cases c with
  |w l n=>
   simp only[Fr] at h
   split at h
   .cases h;trivial
   .rename_i h1 h2;cases h;have:=aad h2;subst this;obtain⟨b,k,h3,h4⟩:=hc;exact⟨b,k,hrp.trans h3,h4⟩
   rename_i h1 h2;cases h;obtain⟨b,k,h3,h4⟩:=hc;exact⟨b,k,(hrl _ (jl h1) (jl h2)).trans h3,h4⟩
  |wn l n=>
   simp only[Fr] at h
   split at h
   .cases h;trivial
   .rename_i h1 h2;cases h;have:=aad h2;subst this
    rcases hc with⟨h3,h4⟩|⟨h3,b,k,h5,h6⟩
    .exact .inl ⟨by simp_all,h4⟩
    exact .inr ⟨by simp_all,b,k,hrp.trans h5,h6⟩
   rename_i h1 h2;cases h
   rcases hc with⟨h3,h4⟩|⟨h3,b,k,h5,h6⟩
   .exact .inl ⟨by rw[hnl _ (jl h1)];exact h3,h4⟩
   exact .inr ⟨by rw[hnl _ (jl h1)];exact h3,b,k,(hrl _ (jl h1) (jl h2)).trans h5,h6⟩
  |s l a1 a2 a3=>
   simp only[Fr] at h
   split at h
   .cases h;trivial
   .rename_i h1 h2;cases h;have:=aad h2;subst this;obtain⟨A,c,b,k,h3,h4⟩:=hc;exact⟨A,c,b,k,hrp.trans h3,h4⟩
   rename_i h1 h2;cases h;obtain⟨A,c,b,k,h3,h4⟩:=hc;exact⟨A,c,b,k,(hrl _ (jl h1) (jl h2)).trans h3,h4⟩
  |p l n=>
   simp only[Fr] at h
   split at h
   .cases h;trivial
   .rename_i h1 h2;cases h;have:=aad h2;subst this;obtain⟨b,k,h3,h4⟩:=hc;exact⟨b,k,hrp.trans h3,h4⟩
   rename_i h1 h2;cases h;obtain⟨b,k,h3,h4⟩:=hc;exact⟨b,k,(hrl _ (jl h1) (jl h2)).trans h3,h4⟩
  |e l a1 a2 a3=>
   simp only[Fr] at h
   split at h
   .cases h;trivial
   .rename_i h1 h2;cases h;have:=aad h2;subst this;obtain⟨b,k,h3,h4⟩:=hc;exact⟨b,k,hrp.trans h3,h4⟩
   rename_i h1 h2;cases h;obtain⟨b,k,h3,h4⟩:=hc;exact⟨b,k,(hrl _ (jl h1) (jl h2)).trans h3,h4⟩
  |_=>simp only[Fr] at h;cases h;exact hc
 have ok:=hR.ok
 have hback:∀l b c,(E.ren p q).r l=some (b,c)->∃l',E.r l'=some (b,c):=λl b c h=>(hr2 l b c h).elim (λh=>⟨q,h.2⟩) (λh=>⟨l,h.2.2⟩)
 refine⟨E.ren p q,⟨ok.fb,ok.gf,ok.gn,λl b c h=>?_,λl l' b c c' h h'=>?_,ok.os,ok.tape,ok.output,ok.size,ok.block,λl x hv h=>?_,ok.ff,ok.gc,⟨λl b h=>?_,ok.sf.tt,λb h=>?_,ok.sf.zs,ok.sf.ze⟩⟩,λl x h=>?_,λl y hl=>?_,λk=>Bj hf hs (hR.sl k),hR.dfr,hR.size,hR.td⟩
 .rcases hr2 l b c h with⟨_,h⟩|⟨_,_,h⟩
  .obtain⟨k1,k2⟩:=ok.rb _ _ _ h
   simp_all
  exact ok.rb l b c h
 .rcases hr2 l b c h with⟨rfl,k3⟩|⟨k1,k2,k3⟩<;>rcases hr2 l' b c' h' with⟨e,m3⟩|⟨m1,m2,m3⟩
  .exact e.symm
  .exact absurd (ok.inj _ _ _ _ _ m3 k3) m2
  .exact absurd (ok.inj _ _ _ _ _ k3 m3) k2
  exact ok.inj _ _ _ _ _ k3 m3
 .obtain⟨b,c⟩:=x
  rcases hr2 l b c h with⟨rfl,_⟩|⟨_,_,h⟩
  .simp_all
  exact ok.pin l _ hv h
 .obtain⟨k1,k2,k3,k4⟩:=ok.sf.tb l b h
  exact⟨k1,k2,λl' c hl=>(hback l' b c hl).elim λl'' h''=>k3 l'' c h'',k4⟩
 .obtain⟨k1,k2,k3,k4⟩:=ok.sf.zc b h
  exact⟨k1,k2,λl' c hl=>(hback l' b c hl).elim λl'' h''=>k3 l'' c h'',k4⟩
 .obtain⟨b,c⟩:=x
  rcases hr2 l b c h with⟨rfl,_⟩|⟨_,_,h⟩
  .exact dt hpn
  exact hR.dom l _ h
 obtain⟨l0,x,a1,a2,a3,a4⟩:=JE hne hb hl
 have hx:=hR.obs l0 x a3
 have hlab:(E.ren p q).r l=E.r l0/\(E.ren p q).n l=E.n l0:=by
  subst a2
  unfold LO
  split
  .simp_all
  simp_all
 cases x with
 |var t cs=>
  obtain⟨cs',h1,rfl⟩:=a4
  obtain⟨b,c,arr,k1,k2,k3,k4⟩:=hx
  exact⟨b,c,arr,hlab.1.trans k1,k2,vm hf h1 k3,k4⟩
 |row t sz els g m=>
  have a4:y= .row t sz els g m:=a4
  subst a4
  obtain⟨b,c,arr,k1,k2⟩:=hx
  exact⟨b,c,arr,hlab.1.trans k1,k2⟩
 |rown t sz els g=>
  have a4:y= .rown t sz els g:=a4
  subst a4
  rcases hx with⟨h1,h2⟩|⟨h1,b,c,arr,k1,k2⟩
  .exact .inl ⟨by simp_all,h2⟩
  exact .inr ⟨by simp_all,b,c,arr,hlab.1.trans k1,k2⟩
 |abs j z=>
  have a4:y= .abs j z:=a4
  subst a4
  rcases hx with⟨h1,h2⟩|⟨h1,b,c,k1,k2⟩
  .exact .inl ⟨by simp_all,h2⟩
  exact .inr ⟨by simp_all,b,c,hlab.1.trans k1,k2⟩
structure VIn (E:Env) (w:World):Prop where
 fb:∀b,E.F b->b<w.heap.size
 gf:∀b,E.G b->E.F b
 rb:∀o b c,E.r o=some (b,c)->b<w.heap.size/\rsv o=true/\¬E.F b
 inj:∀o o' b c c',E.r o=some (b,c)->E.r o'=some (b,c')->o=o'
 T:∀l b,¬E.T l b
 Z:∀b,¬E.Z b
structure VOut (E:Env) (w:World) (E':Env) (w':World):Prop where
 past:Im w w' (λk=>∃o c,E.r o=some (k,c))
 fb:∀b,E'.F b->b<w'.heap.size
 f0:∀b,E'.F b->E.F b\/(w.heap.size<=b/\jv w' b)
 F:∀b,E.F b->E'.F b
 G:∀b,E.G b->E'.G b
 gf:∀b,E'.G b->E'.F b
 g0:∀b,E'.G b->w.heap.size<=b\/E.G b
 rb:∀o b c,E'.r o=some (b,c)->b<w'.heap.size/\(w.heap.size<=b\/((∃o' c',E.r o'=some (b,c'))/\rsv o=true))
 inj:∀o o' b c c',E'.r o=some (b,c)->E'.r o'=some (b,c')->o=o'
 pin:∀o x,rsp o=true->E'.r o=some x->E.r o=some x
structure FnV (P:Program) (f:FuncId) (xs:Laa) (args:List T) (ys:Laa) (out:T) (nw:Laa):Prop where
 enters:∀(vs:Array Value) (w:World),(callFunc f vs).run P w= .ok (.enter f vs) w
 calls:∀(E:Env) (w:World) (vals:Array Value),VIn E w->TabsIn w->(∀k∈wG,∀o c,E.r o≠some (k,c))->(∀l x,go xs l=some x->df E w l x)->TV E w args vals.toList->
  Calls P f vals w λe w'=>∃v E',e= .returned v/\VOut E w E' w'/\cvT E' w' out v/\(∀l y,go ys l=some y->df E' w' l y)/\(∀l y,go nw l=some y->df E' w' l y)
def U6:List V->T
 |[v]=>.v v
 |vs=>.tup vs
def LoA (ob:Laa):Laa->Prop
 |[]=>True
 |(l,x)::r=>go ob l=some x/\LoA ob r
theorem Il {ob:Laa}:∀{l:Laa} {k:Nat} {x:Ob},LoA ob l->go l k=some x->go ob k=some x
 |(j,y)::r,k,x,h,hg=>by
  by_cases e:j=k
  .subst e;rw[cI] at hg;cases hg;exact h.1
  rw[b7 _ _ e] at hg;exact Il h.2 hg
def xt (N:Nat) (P:Program) (rs:List ResultVar) (ys:Laa) (out:T) (nw:Laa):Exit->St->Prop
 | .ret,s| .normal,s=>∃s' vs,dQ N s s'/\pf P s' rs vs/\U6 vs=out/\LoA s'.ob ys/\LoA s'.ob nw
 |_,_=>False
instance {N:Nat} {P:Program} {rs:List ResultVar} {ys:Laa} {out:T} {nw:Laa}:Clo N (xt N P rs ys out nw):=⟨λe s m hw h=>by
 cases e<;>simp only[xt] at h ⊢<;>first|exact h|(obtain⟨s',vs,h1,h2⟩:=h;exact⟨s',vs,am hw h1,h2⟩)⟩
theorem vb {e:Exit} {m:St} (hw:dQ N s m) (h:qN N P rs res e m):qN N P rs res e s:=Clo.h (N:=N) _ _ _ hw h
theorem bA {ys:Laa} {e:Exit} {m:St} (hw:dQ N s m) (h:xt N P rs ys out nw e m):xt N P rs ys out nw e s:=Clo.h (N:=N) _ _ _ hw h
theorem bj {ys:Laa} {vs:List V} (h:pf P s rs vs:=by repeat' (first|exact .nil|apply pf.cons|exact .tmp rfl|exact .cell rfl rfl rfl|exact .cell1 rfl rfl)) (ho:U6 vs=out':=by exact rfl) (e:out'=out:=by first|rfl|simp) (hy:LoA s.ob ys:=by repeat (first|exact trivial|refine⟨rfl,?_⟩)) (hn:LoA s.ob nw:=by repeat (first|exact trivial|refine⟨rfl,?_⟩)):xt N P rs ys out nw .ret s:=by
 subst e;exact⟨s,vs,vM s,h,ho,hy,hn⟩
theorem nT {ys:Laa} {vs:List V} (h:pf P s rs vs:=by repeat' (first|exact .nil|apply pf.cons|exact .tmp rfl|exact .cell rfl rfl rfl|exact .cell1 rfl rfl)) (ho:U6 vs=out':=by exact rfl) (e:out'=out:=by first|rfl|simp) (hy:LoA s.ob ys:=by repeat (first|exact trivial|refine⟨rfl,?_⟩)) (hn:LoA s.ob nw:=by repeat (first|exact trivial|refine⟨rfl,?_⟩)):xt N P rs ys out nw .normal s:=by
 subst e;exact⟨s,vs,vM s,h,ho,hy,hn⟩
theorem rsv_lt {o:Nat} (h:rsv o=true):o<210:=by
 simp only[rsv,nlt,hV,Nat.ble_eq] at h;omega
theorem TZ   {fn:Func} {c:Code}  {xs ys:Laa} {args:List T}    {sl0:Lab} (hf:P.funcs[f]?=some fn) (hb:fn.body=some c:=by exact rfl) (hnm:(fn.name== "runtime.NumGoroutine")=false:=by kernel_rfl) (hN:fn.ntmps=N) (hrs:fn.results.toList=rs:=by exact rfl)
 (ha:aar args.length N=true:=by exact rfl) (hs:xz 0 args=sl0:=by exact rfl) (h:AWC P N c ⟨sl0,xs,210⟩ (xt N P rs ys out nw)):FnV P f xs args ys out nw:=by
 subst hs
 refine⟨λvs w=>by simp[callFunc,hf,hb];simp_all,λE w vals hI hT hTb hx hA=>?_⟩
 subst hrs
 refine calls_of_wp hf hb ?_
 obtain⟨h1,h2⟩:=Dv 0 hA
 have hle:args.length<=N:=aaF ha
 have hsz:vals.size=args.length:=by simpa using h1
 have hR:Rel N ⟨w,λk=>∃o c,E.r o=some (k,c),E.r,E.F,λ_=>False,⟨hT,λk hk ⟨o,c,h⟩=>hTb k hk o c h⟩,E.G⟩ E ⟨xz 0 args,xs,210⟩ {tmps:=vals++aai (fn.ntmps-vals.size) undef,defers:=[]} w:=by
  refine⟨⟨hI.fb,hI.gf,λ_ h=>.inr h,λo k k' h=>?_,hI.inj,rfl,rfl,rfl,aah _,λ_ _ _=>rfl,λ_ _ _ h=>h,λ_ h=>.inl h,λb h h'=>absurd (hI.fb b h) (by simp_all),⟨λl b h=>absurd h (hI.T l b),λl _ b h=>absurd h (hI.T l b),λ_ h=>h.elim,λ_ h=>h.elim,λb h=>absurd h (hI.Z b)⟩⟩,λo p h=>?_,λo ob h=>hx o ob h,λk=>?_,rfl,by simp;omega,λl b h=>absurd h (hI.T l b)⟩
  .obtain⟨k1,k2,_⟩:=hI.rb o k k' h;grind
  .exact rsv_lt (hI.rb o p.1 p.2 h).2.1
  by_cases hk:k<args.length
  .obtain⟨u,h3,h4⟩:=(h2 k).1 ⟨aap _,by omega⟩
   have:(vals++aai (fn.ntmps-vals.size) undef).getD k undef=u:=by
    have h5:vals[k]?=some u:=by simpa using h3
    have h6:(vals++aai (fn.ntmps-vals.size) undef)[k]?=some u:=by rw[abi oaa];exact h5
    simp[h6]
   simp_all
  have:=(h2 k).2 oaa
  show cvT _ w (gt (xz 0 args) k) _
  rw[this];trivial
 refine wp_mono (h _ _ _ w hR) ?_
 rintro e a' w' ⟨E',s',hR',hq⟩
 have fin:(∃s'' vs,dQ N s' s''/\pf P s'' fn.results.toList vs/\U6 vs=out/\LoA s''.ob ys/\LoA s''.ob nw)->
  a'.defers=[]/\∃v,(results fn a'.tmps).run P w'= .ok v w'/\∃v' E',Ending.returned v= .returned v'/\VOut E w E' w'/\cvT E' w' out v'/\(∀l y,go ys l=some y->df E' w' l y)/\(∀l y,go nw l=some y->df E' w' l y):=by
  rintro⟨s'',vs,hw,hres,ho,hys,hnw⟩
  obtain⟨E'',hR''⟩:=hw _ _ _ _ hR'
  have ok:=hR''.ok
  obtain⟨us,k1,k2⟩:=xu hR'' hres
  have hm:(fn.results.mapM (nu a'.tmps)).run P w'= .ok us.toArray w':=by
   rw[<-aaU (xs:=fn.results),abn]
   simp only[Sem.run_map,k1]
   rfl
  have hrr:results fn a'.tmps=(fn.results.mapM (nu a'.tmps))>>= λvs=>pure (if h:vs.size=1 then vs[0] else .tuple vs):=rfl
  have hv:∃v,(results fn a'.tmps).run P w'= .ok v w'/\cvT E'' w' out v:=by
   subst ho
   match vs,us,k2 with
   |[],[],_=>exact⟨.tuple #[],by simp_all,#[],rfl,trivial⟩
   |[v],[u],k2=>exact⟨u,by simp_all,k2.1⟩
   |v1::v2::vs,u1::u2::us,k2=>exact⟨.tuple (u1::u2::us).toArray,by simp_all,_,rfl,k2⟩
  obtain⟨v,q1,q2⟩:=hv
  have hk:kQ E'' w' {E'' with F:=λb=>E''.F b\/E.F b,G:=λb=>E''.G b\/E.G b} w':=⟨λ_ _ h=>h,λg b h=>by cases g<;>exact .inl h,λ_ _ _=>rfl,λ_ _ h=>⟨h,rfl⟩,λ_ h=>⟨h,.refl _ _⟩,rfl⟩
  have hob:∀l y,go s''.ob l=some y->df {E'' with F:=λb=>E''.F b\/E.F b,G:=λb=>E''.G b\/E.G b} w' l y:=λl y h=>
   gN hk (λ_ _ _=>rfl) (λb c hr hn hF=>hF.elim hn (λhF=>by
    rcases(ok.rb l b c hr).2 with k|⟨⟨o,c',k⟩,_⟩
    .have:=hI.fb b hF;grind
    exact(hI.rb o b c' k).2.2 hF)) (hR''.obs l y h)
  refine⟨hR''.dfr,v,q1,v,{E'' with F:=λb=>E''.F b\/E.F b,G:=λb=>E''.G b\/E.G b},rfl,⟨⟨ok.os,ok.tape,ok.output,ok.size,ok.block⟩,λb h=>h.elim (ok.fb b) (λh=>by have:=hI.fb b h;have:=ok.size;grind),λb h=>h.elim (λh=>(ok.ff b h).elim .inl (λk=>.inr ⟨k,ok.gc b h k⟩)) .inl,λb h=>.inr h,λb h=>.inr h,λb h=>h.imp (ok.gf b) (hI.gf b),λb h=>h.elim (ok.gn b) .inr,λo b c h=>?_,ok.inj,λo x hv h=>?_⟩,?_,?_,?_⟩
  .obtain⟨m1,m2⟩:=ok.rb o b c h
   simp_all
  .exact ok.pin o x hv h
  .exact kF hk q2
  .exact λl y h=>hob l y (Il hys h)
  exact λl y h=>hob l y (Il hnw h)
 cases e with
 |normal=>exact fin hq
 |ret=>exact fin hq
 |_=>exact hq.elim
def d7:Lac->Nat->Option Nat
 |[],_=>none
 |(a,b)::r,n=>match d0 a n with
  |true=>some b
  |false=>d7 r n
def inv:Lac->Lac
 |[]=>[]
 |(a,b)::r=>(b,a)::inv r
theorem eA {a b:Nat}:∀{m:Lac},d7 m a=some b->(a,b)∈m
 |(x,y)::r,h=>by
  simp only[d7] at h
  split at h
  .simp_all
  exact .tail _ (eA h)
theorem jJ {a b:Nat}:∀{m:Lac},(m.map (·.1)).Nodup->(a,b)∈m->d7 m a=some b
 |(x,y)::r,hn,h=>by
  simp only[d7]
  simp only[aau,aaY] at hn
  rcases aaf.1 h with e|h
  .cases e;simp
  have hne:x≠a:=λe=>hn.1 (by simp_all)
  rw[nj hne];exact jJ hn.2 h
theorem rJ {a b:Nat}:∀{m:Lac},(b,a)∈inv m↔(a,b)∈m
 |[]=>by simp[inv]
 |(x,y)::r=>by
  simp only[inv,aaf,Prod.mk.injEq,rJ (m:=r)]
  grind
theorem xX:∀(m:Lac),(inv m).map (·.1)=m.map (·.2)
 |[]=>rfl
 |(x,y)::r=>by simp[inv,xX r]
def rlC (m:Lac):C->Option C
 | .d g x=>some (.d g x)
 | .nil=>some .nil
 | .any=>some .any
 | .fn f=>some (.fn f)
 | .w l n=>match d7 m l with
  |some k=>some (.w k n)
  |none=>none
 | .wn l n=>match d7 m l with
  |some k=>some (.wn k n)
  |none=>none
 | .p l j=>match d7 m l with
  |some k=>some (.p k j)
  |none=>none
 |_=>none
def rlB (ob:Laa) (m:Lac):C->Option C
 | .d g x=>some (.d g x)
 | .nil=>some .nil
 | .any=>some .any
 | .fn f=>some (.fn f)
 | .w l n=>match d7 m l,go ob l with
  |some k,some (.row ..)=>some (.w k n)
  |_,_=>none
 | .wn l n=>match d7 m l,go ob l with
  |some k,some (.rown ..)=>some (.wn k n)
  |_,_=>none
 | .p l j=>match d7 m l,go ob l with
  |some k,some (.var ..)=>some (.p k j)
  |_,_=>none
 |_=>none
def agC (up:Bool) (ob:Laa) (m:Lac):C->Option C
 | .d g x=>some (.d (up&&g) x)
 | .nil=>some (.d up (.l []))
 |c=>rlB ob m c
def sZ (f:C->Option C):List T->Option (List T)
 |[]=>some []
 |c::cs=>match zw f c,sZ f cs with
  |some x,some xs=>some (x::xs)
  |_,_=>none
def GV (f:C->Option C):Ob->Option Ob
 | .var t cs=>match qA f cs with
  |some cs'=>some (.var t cs')
  |none=>none
 | .row t sz els g true=>some (.row t sz els g true)
 | .row _ _ _ _ false=>none
 | .rown t sz els g=>some (.rown t sz els g)
 | .abs _ _=>none
def zQ (mi:Lac) (ob:Laa):Lac->Option Laa
 |[]=>some []
 |(k,o)::r=>match go ob o with
  |some x=>match GV (rlB ob mi) x,zQ mi ob r with
   |some y,some ys=>some ((k,y)::ys)
   |_,_=>none
  |none=>none
def s8 (m:Lac):Laa->Option Laa
 |[]=>some []
 |(k,x)::r=>match d7 m k,GV (rlC m) x,s8 m r with
  |some o,some y,some ys=>some ((o,y)::ys)
  |_,_,_=>none
def kvC (mi:Lac):C->Option C
 | .w l n=>match d7 mi l with
  |some _=>some .any
  |none=>some (.w l n)
 | .wn l n=>match d7 mi l with
  |some _=>some .any
  |none=>some (.wn l n)
 | .s l a b c=>match d7 mi l with
  |some _=>some .any
  |none=>some (.s l a b c)
 | .e l a b c=>match d7 mi l with
  |some _=>some .any
  |none=>some (.e l a b c)
 | .p l j=>match d7 mi l with
  |some k=>match rsp k with
   |true=>some (.p l j)
   |false=>some .any
  |none=>some (.p l j)
 |c=>some c
def Ub (ys:Laa) (k:Nat):Bool:=match go ys k with
 |some (.var ..)=>true
 |_=>false
def OE (nx:Nat):Lac->Nat->Bool
 |[],n=>d0 n nx
 |(k,o)::r,n=>((d0 o nx&&!rsv nx)&&!rsv k)&&OE (nx+1) r n
def mOK (m nl:Lac) (nx n:Nat) (ys:Laa):Bool:=
 ((oG ((m++nl).map (·.1))&&oG ((m++nl).map (·.2)))&&(m.all (λp=>rsv p.1&&nlt p.2 nx)&&OE nx nl n))&&
  ((m.all (λp=>rsp p.1||rsv p.2)||m.all (λp=>rsp p.1||!rsv p.2))&&m.all (λp=>(!rsp p.2||rsp p.1)&&((!rsp p.1||Ub ys p.1)&&(go ys p.1).isSome)))
theorem KC:∀{nl:Lac} {nx n:Nat},OE nx nl n=true->nx<=n/\∀k o,(k,o)∈nl->nx<=o/\o<n/\rsv o=false/\rsv k=false
 |[],nx,n,h=>by have:=aad h;simp_all
 |(k,o)::r,nx,n,h=>by
  simp only[OE,hV,aaw] at h
  obtain⟨⟨⟨h1,h2⟩,h3⟩,h4⟩:=h
  have:=aad h1
  subst this
  obtain⟨k1,k2⟩:=KC h4
  grind
theorem Fb {f:C->Option C} {E E':Env} {w w':World} (hf:∀c c' u,f c=some c'->cvC E w c u->cvC E' w' c' u) {a:Act}:∀{ts ts':List T} {args:List Operand},sZ f ts=some ts'->ts.length=args.length->(∀x t,(x,t)∈args.zip ts->cvT E w t (a.eval x))->TV E' w' ts' (args.map a.eval)
 |[],ts',args,h,hl,hn=>by
  simp[sZ] at h;subst h
  cases args with
  |nil=>trivial
  |cons _ _=>simp at hl
 |t::ts,ts',args,h,hl,hn=>by
  simp only[sZ] at h
  split at h
  .rename_i h1 h2
   simp at h;subst h
   cases args with
   |nil=>simp at hl
   |cons y args=>exact⟨Bk hf h1 (hn y t (by simp)),Fb hf h2 (by simp_all) (λx t hm=>hn x t (by simp[hm]))⟩
  cases h
theorem LE {mi:Lac} {ob:Laa}:∀{m:Lac} {xs:Laa} {l:Nat} {x:Ob},zQ mi ob m=some xs->go xs l=some x->∃o x0,d7 m l=some o/\go ob o=some x0/\GV (rlB ob mi) x0=some x
 |[],xs,l,x,h,hg=>by simp[zQ] at h;subst h;cases hg
 |(k,o)::r,xs,l,x,h,hg=>by
  simp only[zQ] at h
  split at h
  .rename_i x0 h0
   split at h
   .rename_i y ys h1 h2
    simp at h;subst h
    by_cases e:k=l
    .subst e;rw[cI] at hg;cases hg;exact⟨o,x0,by simp[d7],h0,h1⟩
    rw[b7 _ _ e] at hg
    obtain⟨o',x',a1,a2,a3⟩:=LE h2 hg
    exact⟨o',x',by simp only[d7,nj e];exact a1,a2,a3⟩
   cases h
  cases h
theorem HN {mi:Lac} {ob:Laa}:∀{m:Lac} {xs:Laa} {k o:Nat},zQ mi ob m=some xs->(k,o)∈m->∃x0 x,go ob o=some x0/\GV (rlB ob mi) x0=some x
 |(k',o')::r,xs,k,o,h,hm=>by
  simp only[zQ] at h
  split at h
  .rename_i x0 h0
   split at h
   .rename_i y ys h1 h2
    rcases aaf.1 hm with e|hm
    .simp_all
    exact HN h2 hm
   cases h
  cases h
theorem Fu {m:Lac} (hinj:∀a a' b,d7 m a=some b->d7 m a'=some b->a=a'):∀{ys ys':Laa} {o:Nat} {y':Ob},s8 m ys=some ys'->go ys' o=some y'->∃k y,d7 m k=some o/\go ys k=some y/\GV (rlC m) y=some y'
 |[],ys',o,y',h,hg=>by simp[s8] at h;subst h;cases hg
 |(k,x)::r,ys',o,y',h,hg=>by
  simp only[s8] at h
  split at h
  .rename_i o1 y1 ys1 h1 h2 h3
   simp at h;subst h
   by_cases e:o1=o
   .subst e;rw[cI] at hg;cases hg;exact⟨k,x,h1,cI _ _ _,h2⟩
   rw[b7 _ _ e] at hg
   obtain⟨k',y,a1,a2,a3⟩:=Fu hinj h3 hg
   have hne:k≠k':=λe'=>by simp_all
   exact⟨k',y,a1,by rw[b7 _ _ hne];exact a2,a3⟩
  cases h
theorem T8 {a b:Laa} {o:Nat} (h:go (a++b) o=some x):go a o=some x\/(go a o=none/\go b o=some x):=by
 induction a with
 |nil=>exact .inr ⟨rfl,h⟩
 |cons p r ih=>
  obtain⟨k,v⟩:=p
  by_cases e:k=o
  .subst e;rw[aav,cI] at h;rw[cI];exact .inl h
  rw[aav,b7 _ _ e] at h;rw[b7 _ _ e];exact ih h
theorem Fv {m:Lac}:∀{ys ys':Laa} {k:Nat} {y:Ob},s8 m ys=some ys'->go ys k=some y->∃o,d7 m k=some o/\go ys' o≠none
 |(k',x)::r,ys',k,y,h,hg=>by
  simp only[s8] at h
  split at h
  .rename_i o1 y1 ys1 h1 h2 h3
   simp at h;subst h
   by_cases e:k'=k
   .subst e;exact⟨o1,h1,by rw[cI];simp⟩
   rw[b7 _ _ e] at hg
   obtain⟨o,a1,a2⟩:=Fv h3 hg
   refine⟨o,a1,?_⟩
   by_cases e2:o1=o
   .subst e2;rw[cI];simp
   rw[b7 _ _ e2];exact a2
  cases h
theorem Bv {f:C->Option C} {o:Nat} (h:GV f x=some y) (hf:∀c c' u,f c=some c'->cvC E w c u->cvC E' w c' u) (hr:∀b c,¬(E.n l/\∃t sz els g,x= .rown t sz els g)->E.r l=some (b,c)->E'.r o=some (b,c)) (hn:E'.n o↔E.n l)
 (hH:∀g b,E.H g b->E'.H g b) (hF:∀b c,¬(E.n l/\∃t sz els g,x= .rown t sz els g)->E.r l=some (b,c)->¬E.F b->¬E'.F b) (hx:df E w l x):df E' w o y:=by
 cases x with
 |var t cs=>
  simp only[GV] at h
  split at h
  .rename_i h1;cases h
   obtain⟨b,c,arr,k1,k2,k3,k4⟩:=hx
   have hno:¬(E.n l/\∃t' sz els g,Ob.var t cs= .rown t' sz els g):=λ⟨_,_,_,_,_,h⟩=>by cases h
   exact⟨b,c,arr,hr b c hno k1,k2,vm hf h1 k3,hF b c hno k1 k4⟩
  cases h
 |row t sz els g mm=>
  cases mm with
  |false=>cases h
  |true=>
   cases h
   obtain⟨b,c,arr,k1,k2,k3,k4,k5,k6,k7,k8,_⟩:=hx
   have hno:¬(E.n l/\∃t' sz' els' g',Ob.row t sz els g true= .rown t' sz' els' g'):=λ⟨_,_,_,_,_,h⟩=>by cases h
   exact⟨b,c,arr,hr b c hno k1,k2,k3,k4,k5,k6,cT (λ_ _=>rfl) (hH g) rfl _ _ k7,λ_=>hF b c hno k1 (k8 rfl),λh=>by cases h⟩
 |rown t sz els g=>
  cases h
  rcases hx with⟨h1,h2⟩|⟨h1,b,c,arr,k1,k2,k3,k4,k5,k6,k7,k8⟩
  .exact .inl ⟨hn.2 h1,h2⟩
  exact .inr ⟨λk=>h1 (hn.1 k),b,c,arr,hr b c (λk=>h1 k.1) k1,k2,k3,k4,k5,k6,cT (λ_ _=>rfl) (hH g) rfl _ _ k7,hF b c (λk=>h1 k.1) k1 k8⟩
 |abs j z=>cases h
def ltF (n:Nat) (f:C->Option C) (c:C):Option C:=bif c.lt n then f c else some .any
theorem Lm {n:Nat} {f:C->Option C}:∀{cs:List C},cs.all (C.lt n)=true->qA (ltF n f) cs=qA f cs
 |[],_=>rfl
 |c::cs,h=>by
  simp only[aaE,hV] at h
  simp only[qA,Lm h.2,ltF,h.1,cond_true]
theorem Ph {f:C->Option C} {v:V} (h:v.lt n=true):Jg (ltF n f) v=Jg f v:=by
 cases v with
 |c c=>have h:c.lt n=true:=h;simp only[Jg,ltF,h,cond_true]
 |agg cs=>simp only[Jg,Lm (n:=n) (cs:=cs) h]
theorem Ln {n:Nat} {f:C->Option C}:∀{cs:List V},cs.all (V.lt n)=true->CW (ltF n f) cs=CW f cs
 |[],_=>rfl
 |c::cs,h=>by
  simp only[aaE,hV] at h
  simp only[CW,Ln h.2,Ph h.1]
theorem XH {f:C->Option C} {t:T} (h:t.lt n=true):zw (ltF n f) t=zw f t:=by
 cases t with
 |v v=>simp only[zw,Ph (n:=n) (v:=v) h]
 |tup vs=>simp only[zw,Ln (n:=n) (cs:=vs) h]
 |any=>rfl
theorem Pg {n:Nat} {f:C->Option C}:∀{sl:Lab},Ds n sl=true->An (ltF n f) sl=An f sl
 |[],_=>rfl
 |(k,t)::r,h=>by
  simp only[Ds,hV] at h
  simp only[An,XH h.1,Pg h.2]
open Classical in
theorem Pw {up:Bool} {d:Tmp} {ob:Laa} {xs ys ys' nw':Laa} {m nl:Lac}
 (hF:FnV P f xs ts' ys out nw) (ht:zx sl args=some ts) (ha:sZ (agC up ob (inv m)) ts=some ts') (hx:zQ (inv m) ob m=some xs) (hm:mOK m nl nx n ys=true) (hs:An (kvC (inv m)) sl=some sl') (hb:ye (kvC (inv m)) (λ_ x=>some x) ob=some ob')
 (hy:s8 (m++nl) ys=some ys') (hw:s8 (m++nl) nw=some nw') (ho:zw (rlC (m++nl)) out=some out') (hsl:Ds nx sl=true) (hol:zP nx ob=true) (hN:nlt d N=true):
 AWO P N ⟨some d,.call ⟨.value (.func f),args.toArray,tys⟩,ty,ps,af,gd⟩ ⟨sl,ob,nx⟩ ⟨(d,out')::sl',nw'++(ys'++ob'),n⟩:=by
 intro cx E a w hR
 have ok:=hR.ok
 obtain⟨t1,t2⟩:=ub ht
 simp only[mOK,hV,aag,aan,aaw] at hm
 obtain⟨⟨⟨hk1,hk2⟩,hm1,hc⟩,hu,hm2⟩:=hm
 have nd1:=kK hk1
 have nd2:=kK hk2
 obtain⟨hnn,hcu⟩:=KC hc
 have ndm1:(m.map (·.1)).Nodup:=by rw[abe] at nd1;exact(abl.1 nd1).1
 have ndm2:(m.map (·.2)).Nodup:=by rw[abe] at nd2;exact(abl.1 nd2).1
 have inv_of:∀{k o},d7 m k=some o->d7 (inv m) o=some k:=λh=>jJ (by rw[xX];exact ndm2) (rJ.2 (eA h))
 have of_inv:∀{k o},d7 (inv m) o=some k->d7 m k=some o:=λh=>jJ ndm1 (rJ.1 (eA h))
 have inv_of':∀{k o},d7 (m++nl) k=some o->d7 (inv (m++nl)) o=some k:=λh=>jJ (by rw[xX];exact nd2) (rJ.2 (eA h))
 have of_inv':∀{k o},d7 (inv (m++nl)) o=some k->d7 (m++nl) k=some o:=λh=>jJ nd1 (rJ.1 (eA h))
 have look_m:∀{k o},d7 m k=some o->d7 (m++nl) k=some o:=λh=>jJ nd1 (aae.2 (.inl (eA h)))
 have split:∀{k o},d7 (m++nl) k=some o->d7 m k=some o\/(k,o)∈nl:=λh=>(aae.1 (eA h)).imp (jJ ndm1) id
 have linj:∀a a' b,d7 m a=some b->d7 m a'=some b->a=a':=λa a' b h h'=>by grind
 have linj':∀a a' b,d7 (m++nl) a=some b->d7 (m++nl) a'=some b->a=a':=λa a' b h h'=>by grind
 have mrs:∀{k o},d7 m k=some o->rsv k=true/\o<nx:=λh=>⟨(hm1 _ (eA h)).1,dt (hm1 _ (eA h)).2⟩
 have pick:∀{k o},d7 m k=some o->∃x0 x,go ob o=some x0/\GV (rlB ob (inv m)) x0=some x:=λh=>HN hx (eA h)
 let nilL:Nat->Prop:=λo=>E.n o/\∃t sz els g,go ob o=some (.rown t sz els g)
 let Ec:Env:={r:=λl=>match d7 m l with|some o=>if nilL o then none else E.r o|none=>none,F:=E.F,G:=E.G,n:=λl=>∃o,d7 m l=some o/\E.n o}
 have hEc:∀l p,Ec.r l=some p->∃o,d7 m l=some o/\¬nilL o/\E.r o=some p:=by
  intro l p h
  have h:(match d7 m l with|some o=>if nilL o then none else E.r o|none=>none)=some p:=h
  split at h
  .rename_i o h1
   split at h
   .cases h
   grind
  cases h
 have hEc2:∀{l o p},d7 m l=some o->¬nilL o->E.r o=some p->Ec.r l=some p:=by
  intro l o p h1 h2 h3
  show(match d7 m l with|some o=>if nilL o then none else E.r o|none=>none)=some p
  rw[h1];simp only[h2,if_false];exact h3
 have hEn:∀{l o},d7 m l=some o->(Ec.n l↔E.n o):=λh=>⟨λ⟨o',h1,h2⟩=>by grind,λh2=>⟨_,h,h2⟩⟩
 have nF:∀{l o b c},d7 m l=some o->¬nilL o->E.r o=some (b,c)->¬E.F b:=by
  intro l o b c h1 h2 h3
  obtain⟨x0,x,a1,a2⟩:=pick h1
  have hx0:=hR.obs o x0 a1
  cases x0 with
  |var t cs=>obtain⟨b',c',arr,k1,k2,k3,k4⟩:=hx0;grind
  |row t sz els g mm=>
   cases mm with
   |false=>cases a2
   |true=>obtain⟨b',c',arr,k1,k2,k3,k4,k5,k6,k7,k8,_⟩:=hx0;grind
  |rown t sz els g=>
   rcases hx0 with⟨k0,_⟩|⟨_,b',c',arr,k1,k2,k3,k4,k5,k6,k7,k8⟩
   .grind
   grind
  |abs j z=>cases a2
 have hVI:VIn Ec w:=⟨ok.fb,ok.gf,λl b c h=>by
  obtain⟨o,h1,h2,h3⟩:=hEc l _ h
  exact⟨(ok.rb o b c h3).1,(mrs h1).1,nF h1 h2 h3⟩,λl l' b c c' h h'=>by
  obtain⟨o,h1,h2,h3⟩:=hEc l _ h
  obtain⟨o',h1',h2',h3'⟩:=hEc l' _ h'
  have:=ok.inj _ _ _ _ _ h3 h3'
  grind,λ_ _ h=>h,λ_ h=>h⟩
 have hcB:∀c c' u,rlB ob (inv m) c=some c'->cvC E w c u->cvC Ec w c' u:=by
  intro c c' u h hc
  cases c with
  |w l n=>
   simp only[rlB] at h
   split at h
   .rename_i k _ _ _ _ _ h1 h2;cases h
    obtain⟨b,c,h3,h4⟩:=hc
    exact⟨b,c,hEc2 (of_inv h1) (λ⟨_,_,_,_,_,h⟩=>by grind) h3,h4⟩
   cases h
  |wn l n=>
   simp only[rlB] at h
   split at h
   .rename_i k _ _ _ _ h1 h2;cases h
    rcases hc with⟨h3,h4⟩|⟨h3,b,c,h4,h5⟩
    .exact .inl ⟨(hEn (of_inv h1)).2 h3,h4⟩
    exact .inr ⟨λh=>h3 ((hEn (of_inv h1)).1 h),b,c,hEc2 (of_inv h1) (λh=>h3 h.1) h4,h5⟩
   cases h
  |p l n=>
   simp only[rlB] at h
   split at h
   .rename_i k _ _ h1 h2;cases h
    obtain⟨b,c,h3,h4⟩:=hc
    exact⟨b,c,hEc2 (of_inv h1) (λ⟨_,_,_,_,_,h⟩=>by grind) h3,h4⟩
   cases h
  |d g x=>simp only[rlB] at h;cases h;cases g<;>exact hc
  |nil=>simp only[rlB] at h;cases h;exact hc
  |any=>simp only[rlB] at h;cases h;trivial
  |fn f=>simp only[rlB] at h;cases h;exact hc
  |_=>simp only[rlB] at h;cases h
 have hcA:∀c c' u,agC up ob (inv m) c=some c'->cvC E w c u->cvC Ec w c' u:=by
  intro c c' u h hc
  cases c with
  |d g x=>simp only[agC] at h;cases h;exact cS (λ_ _=>rfl) (λb hb=>by cases g<;>cases up<;>first|exact hb|exact ok.gf b hb) x u hc
  |nil=>simp only[agC] at h;cases h;exact⟨none,0,hc,aah _,.inl rfl⟩
  |_=>simp only[agC] at h;grind
 have hX:∀l x,go xs l=some x->df Ec w l x:=by
  intro l x h
  obtain⟨o,x0,a1,a2,a3⟩:=LE hx h
  exact Bv a3 hcB (λb c h1 h2=>hEc2 a1 (λ⟨k1,t,sz,els,g,k2⟩=>h1 ⟨k1,t,sz,els,g,by grind⟩) h2) (hEn a1) (λg b h=>by cases g<;>exact h) (λb c h1 h2 h3=>h3) (hR.obs o x0 a2)
 have hA:=Fb (a:=a) hcA ha t1 (λx t hm=>by have:=hR.op x;rwa [Lk.mem t2 x t hm] at this)
 have hc:=hF.calls Ec w (args.map a.eval).toArray hVI ok.tabs (λk hk l c h=>by
  obtain⟨o,_,_,h3⟩:=hEc l _ h;exact ok.ntab h3 k hk rfl) hX oaa
 have hent:=hF.enters (args.map a.eval).toArray w
 unfold Oper.wp
 have hrun:(execOp a.eval ⟨some d,.call ⟨.value (.func f),args.toArray,tys⟩,ty,ps,af,gd⟩).run P w= .ok (.enter f (args.map a.eval).toArray) w:=by
  simp only[execOp,resolve,Act.eval,Deferred.ofValue,Sem.run_bind,Sem.run_pure,Result.andThen_ok,invoke]
  simpa using hent
 rw[hrun,Oper.upon_enter]
 refine hc.mono ?_
 rintro e w' ⟨v,E',rfl,vo,hv,hY,hNW⟩
 have hsz:=vo.past.size
 let E2:Env:={r:=λl=>match d7 (inv (m++nl)) l with|some k=>E'.r k|none=>E.r l,F:=E'.F,G:=E'.G,T:=E.T,Z:=E.Z,n:=λl=>match d7 (inv (m++nl)) l with|some k=>E'.n k|none=>E.n l}
 have e2r:∀{k o},d7 (m++nl) k=some o->E2.r o=E'.r k:=λh=>by grind
 have e2n:∀{k o},d7 (m++nl) k=some o->(E2.n o↔E'.n k):=λh=>by grind
 have e2r0:∀{o},d7 (inv (m++nl)) o=none->E2.r o=E.r o:=λh=>by grind
 have e2n0:∀{o},d7 (inv (m++nl)) o=none->(E2.n o↔E.n o):=λh=>by grind
 have e2c:∀l b c,E2.r l=some (b,c)->(∃k,d7 (m++nl) k=some l/\E'.r k=some (b,c))\/(d7 (inv (m++nl)) l=none/\E.r l=some (b,c)):=by
  intro l b c h
  cases h1:d7 (inv (m++nl)) l with
  |some k=>exact .inl ⟨k,of_inv' h1,by grind⟩
  |none=>grind
 have oldB:∀{k b c},E'.r k=some (b,c)->w.heap.size<=b\/∃l o c',d7 m l=some o/\¬nilL o/\E.r o=some (b,c')/\rsv k=true:=by
  intro k b c h
  rcases(vo.rb k b c h).2 with h|⟨⟨l,c',h⟩,h2⟩
  .exact .inl h
  obtain⟨o,h3,h4,h5⟩:=hEc l _ h;grind
 have none_of:∀{o},(∀k,d7 m k≠some o)->o<nx->d7 (inv (m++nl)) o=none:=by
  intro o h1 h2
  cases h:d7 (inv (m++nl)) o with
  |none=>rfl
  |some k=>
   rcases split (of_inv' h) with h3|h3
   .grind
   grind
 have hnot:∀{o},d7 (inv (m++nl)) o=none->∀k,d7 m k≠some o:=λh k h1=>by grind
 have hheap:∀k,k<w.heap.size->(∀l o c,d7 m l=some o->¬nilL o->E.r o≠some (k,c))->w'.heap[k]?=w.heap[k]?:=λk hk h=>vo.past.block k hk (λ⟨l,c,h1⟩=>by
  obtain⟨o,h2,h3,h4⟩:=hEc l _ h1;grind)
 have hFh:∀b,E.F b->w'.heap[b]?=w.heap[b]?:=λb hb=>hheap b (ok.fb b hb) (λl o c h1 h2 h3=>nF h1 h2 h3 hb)
 have hHh:∀g b,E.H g b->w'.heap[b]?=w.heap[b]?:=λg b hb=>hFh b (by cases g;exact hb;exact ok.gf b hb)
 have hTh:∀l b,E.T l b->w'.heap[b]?=w.heap[b]?:=λl b hb=>hheap b (ok.sf.tb l b hb).1.1 (λ_ o c _ _ h=>(ok.sf.tb l b hb).2.2.1 o c h)
 have hZh:∀b,cx.Z b->w'.heap[b]?=w.heap[b]?:=λb hb=>hheap b (ok.sf.zc b hb).1.2.1 (λ_ o c _ _ h=>(ok.sf.zc b hb).2.2.1 o c h)
 have okE:dJ cx E2 w':=by
  refine⟨vo.fb,vo.gf,λb h=>?_,λl b c h=>?_,λl l' b c c' h h'=>?_,by rw[vo.past.os];exact ok.os,by rw[vo.past.tape];exact ok.tape,by rw[vo.past.output];exact ok.output,abd ok.size hsz,λb h hW=>?_,λl x hv h=>?_,λb h=>?_,λb h h'=>?_,⟨λl b h=>?_,ok.sf.tt,λb h=>?_,λb h=>?_,ok.sf.ze⟩⟩
  .rcases vo.g0 b h with h|h
   .exact .inl (abd ok.size h)
   exact ok.gn b h
  .rcases e2c l b c h with⟨k,h1,h2⟩|⟨h1,h2⟩
   .refine⟨(vo.rb k b c h2).1,?_⟩
    rcases oldB h2 with h3|⟨l',o',c',h3,h4,h5,h6⟩
    .exact .inl (abd ok.size h3)
    rcases split h1 with h7|h7
    .rcases(ok.rb o' b c' h5).2 with h8|⟨h8,h9⟩
     .exact .inl h8
     refine .inr ⟨h8,?_⟩
     cases hp:rsp k with
     |true=>
      have h10:=vo.pin k _ hp h2
      obtain⟨o2,h11,_,h13⟩:=hEc k _ h10
      rw[h7] at h11;cases h11
      have:=ok.inj _ _ _ _ _ h13 h5
      grind
     |false=>
      rcases hu with hu|hu
      .rcases hu _ (eA h7) with h10|h10
       .grind
       exact h10
      rcases hu _ (eA h3) with h10|h10
      .have h11:rsp l'=true:=h10
       have h12:=inv_of h3
       exfalso
       have hy2:(go ys l').isSome=true:=(hm2 _ (eA h3)).2.2
       have hv2:Ub ys l'=true:=((hm2 _ (eA h3)).2.1).resolve_left (by simp[h11])
       unfold Ub at hv2
       split at hv2
       .rename_i t cs hg
        obtain⟨b1,c1,arr,q1,_⟩:=hY _ _ hg
        have q2:=vo.pin l' _ h11 q1
        obtain⟨o2,q3,_,q4⟩:=hEc l' _ q2
        rw[h3] at q3;cases q3
        rw[h5] at q4;cases q4
        have:=vo.inj _ _ _ _ _ q1 h2
        grind
       cases hv2
      grind
    grind
   have:=ok.rb l b c h2;grind
  .rcases e2c l b c h with⟨k,h1,h2⟩|⟨h1,h2⟩<;>rcases e2c l' b c' h' with⟨k',h1',h2'⟩|⟨h1',h2'⟩
   .have:=vo.inj _ _ _ _ _ h2 h2'
    grind
   .exfalso
    rcases oldB h2 with h3|⟨l2,o2,c2,h3,h4,h5,_⟩
    .have:=(ok.rb _ _ _ h2').1;omega
    have:=ok.inj _ _ _ _ _ h5 h2'
    subst this
    exact hnot h1' _ h3
   .exfalso
    rcases oldB h2' with h3|⟨l2,o2,c2,h3,h4,h5,_⟩
    .have:=(ok.rb _ _ _ h2).1;omega
    have:=ok.inj _ _ _ _ _ h5 h2
    subst this
    exact hnot h1 _ h3
   exact ok.inj _ _ _ _ _ h2 h2'
  .rw[hheap b (aay h ok.size) (λl o c h1 h2 h3=>by
    rcases(ok.rb o b c h3).2 with h4|h4
    .omega
    grind)]
   exact ok.block b h hW
  .obtain⟨b,c⟩:=x
   rcases e2c l b c h with⟨k,h1,h2⟩|⟨_,h2⟩
   .rcases split h1 with h7|h7
    .have hk:rsp k=true:=((hm2 _ (eA h7)).1).resolve_left (by simp[hv])
     obtain⟨o2,q3,_,q4⟩:=hEc k _ (vo.pin k _ hk h2)
     rw[h7] at q3;cases q3
     exact ok.pin l _ hv q4
    have:=(hcu _ _ h7).2.2.1
    have h9:=JH hv
    grind
   exact ok.pin l _ hv h2
  .rcases vo.f0 b h with h|h
   .exact ok.ff b h
   exact .inr (abd ok.size h.1)
  .rcases vo.f0 b h with h|h
   .exact(ok.gc b h h').of_eq (hFh b h)
   exact h.2
  .obtain⟨k1,k2,k3,k4⟩:=ok.sf.tb l b h
   refine⟨⟨by omega,k1.2⟩,λhf=>?_,λo c ho=>?_,k4.of_eq (hTh l b h)⟩
   .rcases vo.f0 b hf with hf|hf
    .exact k2 hf
    omega
   rcases e2c o b c ho with⟨k,_,h2⟩|⟨_,h2⟩
   .rcases oldB h2 with h3|⟨l2,o2,c2,h3,h4,h5,_⟩
    .omega
    exact k3 _ _ h5
   grind
  .obtain⟨k1,k2,k3,k4⟩:=ok.sf.zc b h
   refine⟨⟨k1.1,by omega,k1.2.2⟩,λhf=>?_,λo c ho=>?_,k4.of_eq (hZh b h)⟩
   .rcases vo.f0 b hf with hf|hf
    .exact k2 hf
    omega
   rcases e2c o b c ho with⟨k,_,h2⟩|⟨_,h2⟩
   .rcases oldB h2 with h3|⟨l2,o2,c2,h3,h4,h5,_⟩
    .omega
    exact k3 _ _ h5
   grind
  exact(ok.sf.zs b h).trans (.of_eq (hZh b h))
 have hHm:∀g b,E.H g b->E2.H g b:=λg b h=>by cases g;exact vo.F b h;exact vo.G b h
 have hkv:∀c c' u,c.lt nx=true->kvC (inv m) c=some c'->cvC E w c u->cvC E2 w' c' u:=by
  intro c c' u hl h hc
  have hnone:∀{l},d7 (inv m) l=none->l<nx->d7 (inv (m++nl)) l=none:=λh1 h2=>none_of (λk h3=>by grind) h2
  cases c with
  |d g x=>simp only[kvC] at h;cases h;exact cS (hHh g) (hHm g) x u hc
  |w l n=>
   simp only[kvC] at h
   split at h
   .cases h;trivial
   rename_i h1;cases h
   obtain⟨b,c,h3,h4⟩:=hc
   exact⟨b,c,by rw[e2r0 (hnone h1 (dt hl))];exact h3,h4⟩
  |wn l n=>
   simp only[kvC] at h
   split at h
   .cases h;trivial
   rename_i h1;cases h
   have h2:=hnone h1 (dt hl)
   rcases hc with⟨h3,h4⟩|⟨h3,b,c,h4,h5⟩
   .exact .inl ⟨(e2n0 h2).2 h3,h4⟩
   exact .inr ⟨λh=>h3 ((e2n0 h2).1 h),b,c,by grind,h5⟩
  |s l a1 a2 a3=>
   simp only[kvC] at h
   split at h
   .cases h;trivial
   rename_i h1;cases h
   obtain⟨A,c,b,k,h3,h4⟩:=hc
   exact⟨A,c,b,k,by rw[e2r0 (hnone h1 (dt hl))];exact h3,h4⟩
  |e l a1 a2 a3=>
   simp only[kvC] at h
   split at h
   .cases h;trivial
   rename_i h1;cases h
   obtain⟨b,c,h3,h4⟩:=hc
   exact⟨b,c,by rw[e2r0 (hnone h1 (dt hl))];exact h3,h4⟩
  |p l j=>
   simp only[kvC] at h
   split at h
   .rename_i k h1
    split at h
    .rename_i hp
     cases h
     obtain⟨b,c,h3,h4⟩:=hc
     have h5:=of_inv h1
     have hv2:Ub ys k=true:=((hm2 _ (eA h5)).2.1).resolve_left (by simp[hp])
     unfold Ub at hv2
     split at hv2
     .rename_i t cs hg
      obtain⟨b1,c1,arr,q1,_⟩:=hY _ _ hg
      obtain⟨o2,q3,_,q4⟩:=hEc k _ (vo.pin k _ hp q1)
      rw[h5] at q3;cases q3
      rw[h3] at q4;cases q4
      exact⟨b,c,by rw[e2r (look_m h5)];exact q1,h4⟩
     cases hv2
    cases h;trivial
   rename_i h1;cases h
   obtain⟨b,c,h3,h4⟩:=hc
   exact⟨b,c,by rw[e2r0 (hnone h1 (dt hl))];exact h3,h4⟩
  |q g y j=>
   simp only[kvC] at h;cases h
   obtain⟨b,k,h1,h2,h3⟩:=hc
   exact⟨b,k,h1,hHm g b h2,rdL_mono (hHh g) (hHm g) y b k h2 h3⟩
  |fn f=>simp only[kvC] at h;cases h;exact hc
  |nil=>simp only[kvC] at h;cases h;exact hc
  |any=>simp only[kvC] at h;cases h;trivial
  |r l x=>simp only[kvC] at h;cases h;exact cS (λb hb=>hTh l b hb) (λb hb=>hb) x u hc
  |z x=>simp only[kvC] at h;cases h;exact vx (λb hb=>.of_eq (hZh b (ok.sf.ze b hb))) (λb hb=>hb) x u hc
  |zq x j=>
   simp only[kvC] at h;cases h
   obtain⟨b,k,h1,h2,h3⟩:=hc
   exact⟨b,k,h1,h2,rsL_mono (λb hb=>.of_eq (hZh b (ok.sf.ze b hb))) (λb hb=>hb) x b k h2 h3⟩
 have hrl:∀c c' u,rlC (m++nl) c=some c'->cvC E' w' c u->cvC E2 w' c' u:=by
  intro c c' u h hc
  cases c with
  |w l n=>
   simp only[rlC] at h
   split at h
   .rename_i k h1;cases h
    obtain⟨b,c,h3,h4⟩:=hc
    exact⟨b,c,by grind,h4⟩
   cases h
  |wn l n=>
   simp only[rlC] at h
   split at h
   .rename_i k h1;cases h
    rcases hc with⟨h3,h4⟩|⟨h3,b,c,h4,h5⟩
    .exact .inl ⟨(e2n h1).2 h3,h4⟩
    exact .inr ⟨λh=>h3 ((e2n h1).1 h),b,c,by grind,h5⟩
   cases h
  |p l n=>
   simp only[rlC] at h
   split at h
   .rename_i k h1;cases h
    obtain⟨b,c,h3,h4⟩:=hc
    exact⟨b,c,by grind,h4⟩
   cases h
  |d g x=>simp only[rlC] at h;cases h;cases g<;>exact hc
  |nil=>simp only[rlC] at h;cases h;exact hc
  |any=>simp only[rlC] at h;cases h;trivial
  |fn f=>simp only[rlC] at h;cases h;exact hc
  |_=>simp only[rlC] at h;cases h
 have hrel:∀{k o:Nat} {y y':Ob},d7 (m++nl) k=some o->GV (rlC (m++nl)) y=some y'->df E' w' k y->df E2 w' o y':=λh1 h2 h3=>
  Bv h2 hrl (λb c _ h=>by grind) (e2n h1) (λg b h=>by cases g<;>exact h) (λb c _ _ h=>h) h3
 refine⟨E2,okE,λl x h=>?_,λl y hl=>?_,λk=>?_,hR.dfr,by simpa [Act.put] using hR.size,λl b h=>aay (hR.td l b h) hnn⟩
 .obtain⟨b,c⟩:=x
  rcases e2c l b c h with⟨k,h1,_⟩|⟨_,h2⟩
  .rcases split h1 with h3|h3
   .exact aay (mrs h3).2 hnn
   grind
  exact aay (hR.dom l _ h2) hnn
 .rcases T8 hl with h|⟨_,h⟩
  .obtain⟨k,y0,h1,h2,h3⟩:=Fu linj' hw h
   exact hrel h1 h3 (hNW _ _ h2)
  rcases T8 h with h|⟨h0,h⟩
  .obtain⟨k,y0,h1,h2,h3⟩:=Fu linj' hy h
   exact hrel h1 h3 (hY _ _ h2)
  .
    have hnm:∀k,d7 m k≠some l:=λk h1=>by
     have h2:=(hm2 _ (eA h1)).2.2
     cases h3:go ys k with
     |none=>grind
     |some y0=>
      obtain⟨o,h4,h5⟩:=Fv hy h3
      grind
    have hno:∀b c,E.r l=some (b,c)->w'.heap[b]?=w.heap[b]?:=λb c hr=>hheap b (ok.rb l b c hr).1 (λl' o' c' h1 _ h3=>by
     have:=ok.inj _ _ _ _ _ hr h3
     subst this
     exact hnm _ h1)
    have hFn:∀b c,E.r l=some (b,c)->¬E.F b->¬E2.F b:=λb c hr hn hf=>(vo.f0 b hf).elim hn (λh=>by have:=(ok.rb l b c hr).1;omega)
    rcases wl hb h with⟨t,cs,cs',g1,g2,rfl⟩|⟨x0,g1,g2,g3⟩
    .obtain⟨hln,hxl⟩:=yi hol g1
     have e1:=e2r0 (none_of hnm hln)
     obtain⟨b,c,arr,k1,k2,k3,k4⟩:=hR.obs l _ g1
     refine⟨b,c,arr,by grind,(hno b c k1).trans k2,?_,hFn b c k1 k4⟩
     have key:∀(cs cs':List C) (us:Lae),cs.all (C.lt nx)=true->qA (kvC (inv m)) cs=some cs'->CV E w cs us->CV E2 w' cs' us:=by
      intro cs
      induction cs with
      |nil=>intro cs' us _ h hc;simp[qA] at h;subst h;cases us with
       |nil=>trivial
       |cons _ _=>exact hc.elim
      |cons c cs ih=>
       intro cs' us hl h hc
       simp only[aaE,hV] at hl
       cases us with
       |nil=>exact hc.elim
       |cons u us=>
        simp only[qA] at h
        split at h
        .rename_i h1 h2;simp at h;subst h;exact⟨hkv _ _ _ hl.1 h1 hc.1,ih _ _ hl.2 h2 hc.2⟩
        cases h
     exact key _ _ _ hxl g2 k3
    cases g3
    obtain⟨hln,hxl⟩:=yi hol g1
    have e1:=e2r0 (none_of hnm hln)
    have e3:=e2n0 (none_of hnm hln)
    have hx0:=hR.obs l _ g1
    cases y with
    |var t cs=>grind
    |row t sz els g mm=>
     obtain⟨b,c,arr,k1,k2,k3,k4,k5,k6,k7,k8,k9⟩:=hx0
     exact⟨b,c,arr,by grind,(hno b c k1).trans k2,k3,k4,k5,k6,cT (hHh g) (hHm g) (hno b c k1) _ _ k7,λhm=>hFn b c k1 (k8 hm),λhm=>⟨hHm false b (k9 hm).1,λhg=>hHm true b ((k9 hm).2 hg)⟩⟩
    |rown t sz els g=>
     rcases hx0 with⟨k1,k2⟩|⟨k0,b,c,arr,k1,k2,k3,k4,k5,k6,k7,k8⟩
     .exact .inl ⟨e3.2 k1,k2⟩
     exact .inr ⟨λh=>k0 (e3.1 h),b,c,arr,by grind,(hno b c k1).trans k2,k3,k4,k5,k6,cT (hHh g) (hHm g) (hno b c k1) _ _ k7,hFn b c k1 k8⟩
    |abs j z=>
     rcases hx0 with⟨k1,k2⟩|⟨k0,b,c,k1,k2,k3⟩
     .exact .inl ⟨e3.2 k1,k2⟩
     exact .inr ⟨λh=>k0 (e3.1 h),b,c,by grind,z.st _ _ _ _ _ _ k2 (λk hk=>hk) (hno b c k1) (λk hk=>hTh j k hk),hFn b c k1 k3⟩
 rw[iv (by rw[hR.size];exact dt hN)]
 by_cases hdk:d=k
 .subst hdk;rw[dR,if_pos rfl];exact Bk hrl ho hv
 rw[c9 _ _ hdk,if_neg hdk]
 rw[<-Pg hsl] at hs
 refine Bj (λc c' u h hc=>?_) hs (hR.sl k)
 unfold ltF at h
 cases hl:c.lt nx with
 |true=>grind
 |false=>rw[hl] at h;cases h;trivial
theorem cwv {d:Tmp} {ob ob1 ob2:Laa} {xs ys ys' nw':Laa} (m nl:Lac) (n:Nat)
 (hF:FnV P f xs ts' ys out nw) (ht:zx sl args=some ts:=by exact rfl) (ha:sZ (agC false ob (inv m)) ts=some ts':=by exact rfl) (hx:zQ (inv m) ob m=some xs:=by exact rfl) (hm:mOK m nl nx n ys=true:=by exact rfl) (hs:An (kvC (inv m)) sl=some sl':=by exact rfl) (hb:ye (kvC (inv m)) (λ_ x=>some x) ob=some ob':=by exact rfl)
 (hy:s8 (m++nl) ys=some ys':=by exact rfl) (hw:s8 (m++nl) nw=some nw':=by exact rfl) (ho:zw (rlC (m++nl)) out=some out':=by exact rfl) (hsl:Ds nx sl=true:=by exact rfl) (hol:zP nx ob=true:=by exact rfl) (hN:nlt d N=true:=by exact rfl) (h1:apO ys' ob'=some ob1:=by exact rfl) (h2:apO nw' ob1=some ob2:=by exact rfl):
 AWO P N ⟨some d,.call ⟨.value (.func f),args.toArray,tys⟩,ty,ps,af,gd⟩ ⟨sl,ob,nx⟩ ⟨(d,out')::sl',ob2,n⟩:=by
 rw[xy h2,xy h1]
 exact Pw hF ht ha hx hm hs hb hy hw ho hsl hol hN
theorem cwu {d:Tmp} {ob ob1 ob2:Laa} {xs ys ys' nw':Laa} (m nl:Lac) (n:Nat)
 (hF:FnV P f xs ts' ys out nw) (ht:zx sl args=some ts:=by exact rfl) (ha:sZ (agC true ob (inv m)) ts=some ts':=by exact rfl) (hx:zQ (inv m) ob m=some xs:=by exact rfl) (hm:mOK m nl nx n ys=true:=by exact rfl) (hs:An (kvC (inv m)) sl=some sl':=by exact rfl) (hb:ye (kvC (inv m)) (λ_ x=>some x) ob=some ob':=by exact rfl)
 (hy:s8 (m++nl) ys=some ys':=by exact rfl) (hw:s8 (m++nl) nw=some nw':=by exact rfl) (ho:zw (rlC (m++nl)) out=some out':=by exact rfl) (hsl:Ds nx sl=true:=by exact rfl) (hol:zP nx ob=true:=by exact rfl) (hN:nlt d N=true:=by exact rfl) (h1:apO ys' ob'=some ob1:=by exact rfl) (h2:apO nw' ob1=some ob2:=by exact rfl):
 AWO P N ⟨some d,.call ⟨.value (.func f),args.toArray,tys⟩,ty,ps,af,gd⟩ ⟨sl,ob,nx⟩ ⟨(d,out')::sl',ob2,n⟩:=by
 rw[xy h2,xy h1]
 exact Pw hF ht ha hx hm hs hb hy hw ho hsl hol hN
section
variable {P:Program} {d:Option Tmp} {ty:TypeId} {ps:String} {af:Array Edge} {gd:Option (Nat×Bool)} {x y z:Operand}
theorem H4 {o h c:Nat} (hr:E.r o=some (b,k)) (h1:l<=h) (h2:h<=n) (hlc:n<=c):cvC E w (.s o sz l (h-l)) (sliced (some ⟨b,0,none⟩) l h c sz):=by
 refine⟨_,_,b,k,hr,rfl,by omega,?_⟩
 by_cases hlh:h=l
 .left;omega
 right
 rw[if_neg oaa]
 simp[Addr.add]
 omega
theorem Nt {t:Nat} {g2:Bool} {o:Nat} {rt:TypeId} {h:Int} {hi:Operand} [ht:ei P t e sz by_] (hn:els.length=n) (h0:0<=h) (h2:h<=n):
 AWN P ⟨d,.slice t x none (some hi) none,ty,ps,af,gd⟩ [(x,.v (.c (.w o n))),(hi,.v (.c (.d g2 (.i .i64 h))))] [(o,.row rt sz els g m)] (.v (.c (.s o sz 0 h.toNat))) []:=
 cE λE ac w hne hob=>by
  have k1:=hne x _ (.head _)
  have k3:=iI (hne hi _ (.tail _ (.head _)))
  obtain⟨b,c,hr,hu⟩:=k1
  obtain⟨b',c',arr,hr',_,_,hlc,_⟩:=hob o _ (.head _)
  rw[hr] at hr';cases hr'
  obtain⟨i,z,hi1,hi2,_⟩:=ht.i
  obtain⟨he,hu'⟩:=AY ht.u
  refine⟨sliced (some ⟨b,0,none⟩) 0 h.toNat c sz,?_,H4 (w:=w) (n:=n) hr (aap _) oaa oaa⟩
  simp[execOp,hu,k3,run_sliceAt_slice w t _ _ _ _ hu',run_slice_h w t (some ⟨b,0,none⟩) n c hu' .i64 h h0 oaa,he,eW hi1,hi2]
theorem Nu {t:Nat} {g2:Bool} {o:Nat} {rt:TypeId} {l:Int} {lo:Operand} [ht:ei P t e sz by_] (hn:els.length=n) (h0:0<=l) (h2:l<=n):
 AWN P ⟨d,.slice t x (some lo) none none,ty,ps,af,gd⟩ [(x,.v (.c (.w o n))),(lo,.v (.c (.d g2 (.i .i64 l))))] [(o,.row rt sz els g m)] (.v (.c (.s o sz l.toNat (n-l.toNat)))) []:=
 cE λE ac w hne hob=>by
  have k1:=hne x _ (.head _)
  have k3:=iI (hne lo _ (.tail _ (.head _)))
  obtain⟨b,c,hr,hu⟩:=k1
  obtain⟨b',c',arr,hr',_,_,hlc,_⟩:=hob o _ (.head _)
  rw[hr] at hr';cases hr'
  obtain⟨i,z,hi1,hi2,_⟩:=ht.i
  obtain⟨he,hu'⟩:=AY ht.u
  refine⟨sliced (some ⟨b,0,none⟩) l.toNat n c sz,?_,H4 (w:=w) (n:=n) hr oaa (aah _) oaa⟩
  simp[execOp,hu,k3,run_sliceAt_slice w t _ _ _ _ hu',run_slice_l w t (some ⟨b,0,none⟩) n c hu' .i64 l h0 oaa,he,eW hi1,hi2]
theorem Np {kd:IntKind} {o:Nat} {i:Int} [ht:ei P t e sz by_] (h0:0<=i) (h1:i<n):
 AWN P ⟨d,.indexAddr t x y,ty,ps,af,gd⟩ [(x,.v (.c (.wn o n))),(y,.v (.c (.d g (.i kd i))))] [] (.v (.c (.e o sz i.toNat 0))) []:=by
 intro cx E a w ok hn hb hf
 have h2:cvT E w (.v (.c (.w o n))) (a.eval x):=by
  rcases hn x _ (.head _) with⟨_,h,_⟩|⟨_,h⟩
  .omega
  exact h
 exact HD (P:=P) (d:=d) (ty:=ty) (ps:=ps) (af:=af) (gd:=gd) (g:=g) (kd:=kd) (t:=t) h0 h1 cx E a w ok (λz u hm=>by
  grind) (λ_ _ h=>by cases h) hf
theorem CY {o:Nat} {rt:TypeId} {el:List D} (he:els[i]?=some el) (h:df E w o (.rown rt sz els g)):df E w o (.row rt sz els g true):=by
 rcases h with⟨_,h⟩|⟨_,b,c,arr,k1,k2,k3,k4,k5,k6,k7,k8⟩
 .simp_all
 exact⟨b,c,arr,k1,k2,k3,k4,k5,k6,k7,λ_=>k8,λh=>by cases h⟩
theorem Rg {o:Nat} {rt:TypeId} {el:List D} {c:C} [ht:jw P t] (he:els[i]?=some el) (hc:ld1 g j el=some c):
 AWN P ⟨d,.load t x,ty,ps,af,gd⟩ [(x,.v (.c (.e o sz i j)))] [(o,.rown rt sz els g)] (.v (.c c)) []:=by
 intro cx E a w ok hn hb hf
 exact HE (P:=P) (m:=true) he hc cx E a w ok hn (λl x h=>by simp at h;obtain⟨rfl,rfl⟩:=h;exact CY he (hb _ _ (.head _))) hf
theorem GO {o:Nat} {rt:TypeId} {el:List D} [ht:g7 P t n] (he:els[i]?=some el) (hj:GL g j n el=some cs):
 AWN P ⟨d,.load t x,ty,ps,af,gd⟩ [(x,.v (.c (.e o sz i j)))] [(o,.rown rt sz els g)] (.v (.agg cs)) []:=by
 intro cx E a w ok hn hb hf
 exact zM (P:=P) (m:=true) he hj cx E a w ok hn (λl x h=>by simp at h;obtain⟨rfl,rfl⟩:=h;exact CY he (hb _ _ (.head _))) hf
theorem Xm {args:Array Operand} (h:a.eval x= .func (.func f) #[] #[]):
 execOp a.eval ⟨d,.call ⟨.value x,args,tys⟩,ty,ps,af,gd⟩=execOp a.eval ⟨d,.call ⟨.value (.func f),args,tys⟩,ty,ps,af,gd⟩:=by
 have e:a.eval (.func f)= .func (.func f) #[] #[]:=rfl
 simp only[execOp,resolve,h,e]
theorem Zz {args:Array Operand} {needs:List (Operand×T)} (h:AWN P ⟨d,.call ⟨.value (.func f),args,tys⟩,ty,ps,af,gd⟩ needs nob out nw):
 AWN P ⟨d,.call ⟨.value x,args,tys⟩,ty,ps,af,gd⟩ ((x,.v (.c (.fn f)))::needs) nob out nw:=by
 intro cx E a w ok hn hb hf
 have:=h cx E a w ok (λy t hm=>hn y t (.tail _ hm)) hb hf
 have e:a.eval x= .func (.func f) #[] #[]:=hn x _ (.head _)
 unfold Oper.wp at this ⊢
 rw[Xm e]
 exact this
end
section
variable {P:Program} {N:Nat} {d:Tmp} {ty:TypeId} {ps:String} {af:Array Edge} {gd:Option (Nat×Bool)} {x y z:Operand} {sl:Lab} {ob:Laa} {nx:Nat} {α:Type} {enc:α->List D}
theorem Pr {args:Array Operand} {st':St} {i:Inf} (hx:opT st.sl x= .v (.c (.fn f))) (h:NS P N ⟨some d,.call ⟨.value (.func f),args,tys⟩,ty,ps,af,gd⟩ st st' i):
 NS P N ⟨some d,.call ⟨.value x,args,tys⟩,ty,ps,af,gd⟩ st st' {i with needs:=(x,.v (.c (.fn f)))::i.needs}:=by
 obtain⟨h1,h2,h3,h4,h5,h6,h7⟩:=h
 exact⟨Zz h1,h2,h3,⟨hx,h4⟩,h5,h6,h7⟩
theorem ZF {t:Nat} {g2:Bool} {o:Nat} {ys:List α} {rt:TypeId} {h:Int} {hi:Operand} [ht:ei P t e sz by_] (H:eF ys 0 h=true) (hn:ys.length=n) (hx:opT sl x= .v (.c (.w o n))) (ho:go ob o=some (.row rt sz (ys.map enc) g m)) (hh:opT sl hi= .v (.c (.d g2 (.i .i64 h)))) (hN:nlt d N=true):
 NS0 P N ⟨some d,.slice t x none (some hi) none,ty,ps,af,gd⟩ sl ob nx d (.v (.c (.s o sz 0 h.toNat))) ⟨d,[(x,.v (.c (.w o n))),(hi,.v (.c (.d g2 (.i .i64 h))))],[(o,.row rt sz (ys.map enc) g m)],.v (.c (.s o sz 0 h.toNat)),[]⟩:=by
 simp only[eF,decide_eq_true_eq] at H
 exact dS (st:=⟨sl,ob,nx⟩) (Nt (by simp_all) H.2.1 oaa) rfl hN ⟨hx,hh,trivial⟩ ⟨ho,trivial⟩ rfl
theorem MW {t:Nat} {g2:Bool} {o:Nat} {ys:List α} {rt:TypeId} {l:Int} {lo:Operand} [ht:ei P t e sz by_] (H:eF ys l ys.length=true) (hn:ys.length=n) (hx:opT sl x= .v (.c (.w o n))) (ho:go ob o=some (.row rt sz (ys.map enc) g m)) (hl:opT sl lo= .v (.c (.d g2 (.i .i64 l)))) (hN:nlt d N=true):
 NS0 P N ⟨some d,.slice t x (some lo) none none,ty,ps,af,gd⟩ sl ob nx d (.v (.c (.s o sz l.toNat (n-l.toNat)))) ⟨d,[(x,.v (.c (.w o n))),(lo,.v (.c (.d g2 (.i .i64 l))))],[(o,.row rt sz (ys.map enc) g m)],.v (.c (.s o sz l.toNat (n-l.toNat))),[]⟩:=by
 simp only[eF,decide_eq_true_eq] at H
 exact dS (st:=⟨sl,ob,nx⟩) (Nu (by simp_all) H.1 oaa) rfl hN ⟨hx,hl,trivial⟩ ⟨ho,trivial⟩ rfl
theorem VY {o:Nat} {ys:List α} {h:Int} (H:eF ys 0 h=true) (ho:go ob o=some (.row t sz (ys.map enc) g m)):Src ob (.s o sz 0 h.toNat) ((ys.take h.toNat).map enc) g:=by
 simp only[eF,decide_eq_true_eq] at H
 have:=Src.s (off:=0) (len:=h.toNat) ho (by simp;omega)
 simp_all
theorem Mh {o:Nat} {ys:List α} {l:Int} (H:eF ys l ys.length=true) (hn:ys.length=n) (ho:go ob o=some (.row t sz (ys.map enc) g m)):Src ob (.s o sz l.toNat (n-l.toNat)) ((ys.drop l.toNat).map enc) g:=by
 simp only[eF,decide_eq_true_eq] at H
 subst hn
 have:=Src.s (off:=l.toNat) (len:=ys.length-l.toNat) ho (by simp;omega)
 rwa [<-List.map_drop,List.take_of_length_le (by simp)] at this
theorem qL {kd:IntKind} {o:Nat} {i:Int} {ys:List α} {a:α} [ei P t e sz by_] (H:ix ys i=some a) (hx:opT sl x= .v (.c (.wn o n)):=by exact rfl) (hy:opT sl y= .v (.c (.d g (.i kd i))):=by exact rfl) (hn:ys.length=n:=by first|rfl|simp) (hN:nlt d N=true:=by exact rfl):
 NS0 P N ⟨some d,.indexAddr t x y,ty,ps,af,gd⟩ sl ob nx d (.v (.c (.e o sz i.toNat 0))) ⟨d,[(x,.v (.c (.wn o n))),(y,.v (.c (.d g (.i kd i))))],[],.v (.c (.e o sz i.toNat 0)),[]⟩:=
 dS (st:=⟨sl,ob,nx⟩) (Np (ixE H).1 (by have:=Uu H;omega)) rfl hN ⟨hx,hy,trivial⟩ trivial rfl
theorem oen {o:Nat} {rt:TypeId} {el:List D} {c:C} [jw P t] (hx:opT sl x= .v (.c (.e o sz i j)):=by exact rfl) (ho:go ob o=some (.rown rt sz els g):=by exact rfl) (hN:nlt d N=true:=by exact rfl) (he:els[i]?=some el) (hc:ld1 g j el=some c:=by exact rfl):
 NS0 P N ⟨some d,.load t x,ty,ps,af,gd⟩ sl ob nx d (.v (.c c)) ⟨d,[(x,.v (.c (.e o sz i j)))],[(o,.rown rt sz els g)],.v (.c c),[]⟩:=dS (st:=⟨sl,ob,nx⟩) (Rg he hc) rfl hN ⟨hx,trivial⟩ ⟨ho,trivial⟩ rfl
theorem Jw {o:Nat} {rt:TypeId} {el:List D} [g7 P t n] (hx:opT sl x= .v (.c (.e o sz i j)):=by exact rfl) (ho:go ob o=some (.rown rt sz els g):=by exact rfl) (hN:nlt d N=true:=by exact rfl) (he:els[i]?=some el) (hc:GL g j n el=some cs:=by exact rfl):
 NS0 P N ⟨some d,.load t x,ty,ps,af,gd⟩ sl ob nx d (.v (.agg cs)) ⟨d,[(x,.v (.c (.e o sz i j)))],[(o,.rown rt sz els g)],.v (.agg cs),[]⟩:=dS (st:=⟨sl,ob,nx⟩) (GO he hc) rfl hN ⟨hx,trivial⟩ ⟨ho,trivial⟩ rfl
theorem ya {ys:List α} {i:Int} {a:α} (H:ix ys i=some a):ys.map enc≠[]:=by
 intro h
 have:=Uu H
 have h0:=(ixE H).1
 rw[List.map_eq_nil_iff] at h
 grind
end
theorem wnn {o n':Nat} (h:gt sl k= .v (.c (.wn o n))) (hn:n=n'):gt sl k= .v (.c (.wn o n')):=hn▸h
def T2 (o:Nat) (x:D) (g:Bool) (k:Nat):C->Option (C×Lac)
 | .wn l n=>match d0 l o with
  |true=>some (.d g x,[(k,n)])
  |false=>some (.wn l n,[])
 |c=>some (c,[])
def Hw (o:Nat) (x:D) (g:Bool) (k:Nat):List C->Option (List C×Lac)
 |[]=>some ([],[])
 |c::cs=>match T2 o x g k c,Hw o x g k cs with
  |some (x,e),some (xs,es)=>some (x::xs,e++es)
  |_,_=>none
def T5 (o:Nat) (x:D) (g:Bool) (k:Nat):V->Option (V×Lac)
 | .c c=>match T2 o x g k c with
  |some (x,e)=>some (.c x,e)
  |none=>none
 | .agg cs=>match Hw o x g k cs with
  |some (x,e)=>some (.agg x,e)
  |none=>none
def KV (o:Nat) (x:D) (g:Bool) (k:Nat):List V->Option (List V×Lac)
 |[]=>some ([],[])
 |c::cs=>match T5 o x g k c,KV o x g k cs with
  |some (x,e),some (xs,es)=>some (x::xs,e++es)
  |_,_=>none
def T4 (o:Nat) (x:D) (g:Bool) (k:Nat):T->Option (T×Lac)
 | .v v=>match T5 o x g k v with
  |some (x,e)=>some (.v x,e)
  |none=>none
 | .tup vs=>match KV o x g k vs with
  |some (x,e)=>some (.tup x,e)
  |none=>none
 | .any=>some (.any,[])
def T3 (o:Nat) (x:D) (g:Bool) (k:Nat):Lab->Option (Lab×Lac)
 |[]=>some ([],[])
 |(j,t)::r=>match T4 o x g k t,T3 o x g k r with
  |some (x,e),some (xs,es)=>some ((j,x)::xs,e++es)
  |_,_=>none
def xI (o:Nat) (x:D) (g:Bool) (k:Nat):Laa->Option (Laa×Lac)
 |[]=>some ([],[])
 |(j,.var t cs)::r=>match d0 j o with
  |true=>none
  |false=>match Hw o x g k cs,xI o x g k r with
   |some (x,e),some (xs,es)=>some ((j,.var t x)::xs,e++es)
   |_,_=>none
 |(j,.row t sz els gg m)::r=>match xI o x g k r with
  |some (xs,es)=>match d0 j o with
   |true=>some (xs,es)
   |false=>some ((j,.row t sz els gg m)::xs,es)
  |none=>none
 |(j,.rown t sz els gg)::r=>match xI o x g k r with
  |some (xs,es)=>match d0 j o with
   |true=>some (xs,es)
   |false=>some ((j,.rown t sz els gg)::xs,es)
  |none=>none
 |(j,.abs i y)::r=>match xI o x g k r with
  |some (xs,es)=>match d0 j o with
   |true=>some (xs,es)
   |false=>some ((j,.abs i y)::xs,es)
  |none=>none
section
variable {E E':Env} {w:World} {o k:Nat} {x:D} {g:Bool} (hd:∀u,cvC E w (.wn o k) u->cvC E' w (.d g x) u) (hk:kQ E w E' w)
include hd hk
theorem OS {c c':C} {e:Lac} (h:T2 o x g k c=some (c',e)) (he:Eqs e) (hc:cvC E w c u):cvC E' w c' u:=by
 cases c with
 |wn l n=>
  simp only[T2] at h
  split at h
  .rename_i hb
   have:=aad hb
   subst this
   simp at h;obtain⟨rfl,rfl⟩:=h
   have hn:k=n:=he.1
   simp_all
  simp at h;obtain⟨rfl,rfl⟩:=h;exact vc hk hc
 |_=>simp only[T2,Option.some.injEq,Prod.mk.injEq] at h;obtain⟨rfl,rfl⟩:=h;exact vc hk hc
theorem EC:∀{cs cs':List C} {e:Lac} {us:Lae},Hw o x g k cs=some (cs',e)->Eqs e->CV E w cs us->CV E' w cs' us
 |[],cs',e,us,h,_,hc=>by
  simp[Hw] at h;obtain⟨rfl,rfl⟩:=h
  cases us with
  |nil=>trivial
  |cons _ _=>exact hc.elim
 |c::cs,cs',e,us,h,he,hc=>by
  cases us with
  |nil=>exact hc.elim
  |cons u us=>
   simp only[Hw] at h
   split at h
   .rename_i h1 h2
    simp at h;obtain⟨rfl,rfl⟩:=h
    obtain⟨k1,k2⟩:=eR he
    exact⟨OS hd hk h1 k1 hc.1,EC h2 k2 hc.2⟩
   cases h
theorem OT {v v':V} {e:Lac} (h:T5 o x g k v=some (v',e)) (he:Eqs e) (hv:cvV E w v u):cvV E' w v' u:=by
 cases v with
 |c c=>
  simp only[T5] at h
  split at h
  .rename_i h1;simp at h;obtain⟨rfl,rfl⟩:=h;exact OS hd hk h1 he hv
  cases h
 |agg cs=>
  simp only[T5] at h
  split at h
  .rename_i h1;simp at h;obtain⟨rfl,rfl⟩:=h;obtain⟨arr,hu,hc⟩:=hv;exact⟨arr,hu,EC hd hk h1 he hc⟩
  cases h
theorem KW:∀{cs cs':List V} {e:Lac} {us:Lae},KV o x g k cs=some (cs',e)->Eqs e->VV E w cs us->VV E' w cs' us
 |[],cs',e,us,h,_,hc=>by
  simp[KV] at h;obtain⟨rfl,rfl⟩:=h
  cases us with
  |nil=>trivial
  |cons _ _=>exact hc.elim
 |c::cs,cs',e,us,h,he,hc=>by
  cases us with
  |nil=>exact hc.elim
  |cons u us=>
   simp only[KV] at h
   split at h
   .rename_i h1 h2
    simp at h;obtain⟨rfl,rfl⟩:=h
    obtain⟨k1,k2⟩:=eR he
    exact⟨OT hd hk h1 k1 hc.1,KW h2 k2 hc.2⟩
   cases h
theorem Xq {v v':T} {e:Lac} (h:T4 o x g k v=some (v',e)) (he:Eqs e) (hv:cvT E w v u):cvT E' w v' u:=by
 cases v with
 |v v=>
  simp only[T4] at h
  split at h
  .rename_i h1;simp at h;obtain⟨rfl,rfl⟩:=h;exact OT hd hk h1 he hv
  cases h
 |tup vs=>
  simp only[T4] at h
  split at h
  .rename_i h1;simp at h;obtain⟨rfl,rfl⟩:=h;obtain⟨arr,hu,hc⟩:=hv;exact⟨arr,hu,KW hd hk h1 he hc⟩
  cases h
 |any=>simp[T4] at h;obtain⟨rfl,rfl⟩:=h;trivial
theorem IN {j:Nat} {u:Value}:∀{sl sl':Lab} {e:Lac},T3 o x g k sl=some (sl',e)->Eqs e->cvT E w (gt sl j) u->cvT E' w (gt sl' j) u
 |[],sl',e,h,_,_=>by simp[T3] at h;obtain⟨rfl,rfl⟩:=h;trivial
 |(i,t)::r,sl',e,h,he,hc=>by
  simp only[T3] at h
  split at h
  .rename_i h1 h2
   simp at h;obtain⟨rfl,rfl⟩:=h
   obtain⟨k1,k2⟩:=eR he
   by_cases hj:i=j
   .subst hj;rw[dR] at hc ⊢;exact Xq hd hk h1 k1 hc
   rw[c9 _ _ hj] at hc ⊢;exact IN h2 k2 hc
  cases h
theorem rx {l:Nat} {y:Ob} (hlo:l≠o) (hF:∀b c,E.r l=some (b,c)->¬E.F b->¬E'.F b):∀{ob ob':Laa} {e:Lac},xI o x g k ob=some (ob',e)->Eqs e->go ob' l=some y->(∀y,go ob l=some y->df E w l y)->df E' w l y
 |[],ob',e,h,_,hy,_=>by simp[xI] at h;obtain⟨rfl,rfl⟩:=h;cases hy
 |(i,.var t cs)::r,ob',e,h,he,hy,hb=>by
  simp only[xI] at h
  split at h
  .cases h
  split at h
  .rename_i a1 a2
   simp at h;obtain⟨rfl,rfl⟩:=h
   obtain⟨k1,k2⟩:=eR he
   by_cases hi:i=l
   .subst hi
    rw[cI] at hy;cases hy
    obtain⟨b,c,arr,q1,q2,q3,q4⟩:=hb _ (cI _ _ _)
    exact⟨b,c,arr,hk.r _ _ q1,q2,EC hd hk a1 k1 q3,hF b c q1 q4⟩
   rw[b7 _ _ hi] at hy
   exact rx hlo hF a2 k2 hy (λy hy=>hb y (by rw[b7 _ _ hi];exact hy))
  cases h
 |(i,.row t sz els gg m)::r,ob',e,h,he,hy,hb=>by
  simp only[xI] at h
  split at h
  .rename_i a2
   split at h
   .rename_i hb2
    simp at h;obtain⟨rfl,rfl⟩:=h
    have hio:=aad hb2
    exact rx hlo hF a2 he hy (λy hy=>hb y (by rw[b7 _ _ (λe=>hlo (e.symm.trans hio))];exact hy))
   simp at h;obtain⟨rfl,rfl⟩:=h
   by_cases hi:i=l
   .subst hi
    rw[cI] at hy;cases hy
    exact gN hk (λ_ _ _=>rfl) (λb c hr=>hF b c hr) (hb _ (cI _ _ _))
   rw[b7 _ _ hi] at hy
   exact rx hlo hF a2 he hy (λy hy=>hb y (by rw[b7 _ _ hi];exact hy))
  cases h
 |(i,.rown t sz els gg)::r,ob',e,h,he,hy,hb=>by
  simp only[xI] at h
  split at h
  .rename_i a2
   split at h
   .rename_i hb2
    simp at h;obtain⟨rfl,rfl⟩:=h
    have hio:=aad hb2
    exact rx hlo hF a2 he hy (λy hy=>hb y (by rw[b7 _ _ (λe=>hlo (e.symm.trans hio))];exact hy))
   simp at h;obtain⟨rfl,rfl⟩:=h
   by_cases hi:i=l
   .subst hi
    rw[cI] at hy;cases hy
    exact gN hk (λ_ _ _=>rfl) (λb c hr=>hF b c hr) (hb _ (cI _ _ _))
   rw[b7 _ _ hi] at hy
   exact rx hlo hF a2 he hy (λy hy=>hb y (by rw[b7 _ _ hi];exact hy))
  cases h
 |(i,.abs _ _)::r,ob',e,h,he,hy,hb=>by
  simp only[xI] at h
  split at h
  .rename_i a2
   split at h
   .rename_i hb2
    simp at h;obtain⟨rfl,rfl⟩:=h
    have hio:=aad hb2
    exact rx hlo hF a2 he hy (λy hy=>hb y (by rw[b7 _ _ (λe=>hlo (e.symm.trans hio))];exact hy))
   simp at h;obtain⟨rfl,rfl⟩:=h
   by_cases hi:i=l
   .subst hi
    rw[cI] at hy;cases hy
    exact gN hk (λ_ _ _=>rfl) (λb c hr=>hF b c hr) (hb _ (cI _ _ _))
   rw[b7 _ _ hi] at hy
   exact rx hlo hF a2 he hy (λy hy=>hb y (by rw[b7 _ _ hi];exact hy))
  cases h
end
theorem lZ {o k:Nat} {x:D} {g:Bool}:∀{ob ob':Laa} {e:Lac},xI o x g k ob=some (ob',e)->go ob' o=none
 |[],ob',e,h=>by simp[xI] at h;obtain⟨rfl,rfl⟩:=h;rfl
 |(i,.var t cs)::r,ob',e,h=>by
  simp only[xI] at h
  split at h
  .cases h
  rename_i hb
  split at h
  .rename_i a1 a2
   simp at h;obtain⟨rfl,rfl⟩:=h
   rw[b7 _ _ (jl hb)];exact lZ a2
  cases h
 |(i,.row t sz els gg m)::r,ob',e,h=>by
  simp only[xI] at h
  split at h
  .rename_i a2
   split at h
   .simp at h;obtain⟨rfl,rfl⟩:=h;exact lZ a2
   rename_i hb
   simp at h;obtain⟨rfl,rfl⟩:=h
   rw[b7 _ _ (jl hb)];exact lZ a2
  cases h
 |(i,.rown t sz els gg)::r,ob',e,h=>by
  simp only[xI] at h
  split at h
  .rename_i a2
   split at h
   .simp at h;obtain⟨rfl,rfl⟩:=h;exact lZ a2
   rename_i hb
   simp at h;obtain⟨rfl,rfl⟩:=h
   rw[b7 _ _ (jl hb)];exact lZ a2
  cases h
 |(i,.abs _ _)::r,ob',e,h=>by
  simp only[xI] at h
  split at h
  .rename_i a2
   split at h
   .simp at h;obtain⟨rfl,rfl⟩:=h;exact lZ a2
   rename_i hb
   simp at h;obtain⟨rfl,rfl⟩:=h
   rw[b7 _ _ (jl hb)];exact lZ a2
  cases h
theorem fx {ty:Nat} {ob:Laa} {e1 e2:Lac} (o:Nat) (hrv:rsv o=false:=by exact rfl) (ho:go ob o=some (.rown ty sz els g):=by exact rfl) (hs:T3 o (.l els) g els.length sl=some (sl',e1):=by exact rfl) (hb:xI o (.l els) g els.length ob=some (ob',e2):=by exact rfl) (h1:Eqs e1:=by repeat (first|exact trivial|refine⟨by first|rfl|simp,?_⟩)) (h2:Eqs e2:=by repeat (first|exact trivial|refine⟨by first|rfl|simp,?_⟩)):
 dQ N ⟨sl,ob,nx⟩ ⟨sl',ob',nx⟩:=by
 intro cx E a w hR
 rcases hR.obs o _ ho with⟨hE,hels⟩|⟨hE,b,c,arr,hr,hh,ha,hlc,hmx,hes,hrd,hF⟩
 .have hk:kQ E w E w:=⟨λ_ _ h=>h,λ_ _ h=>h,λ_ _ _=>rfl,λ_ _ h=>⟨h,rfl⟩,λ_ h=>⟨h,.refl _ _⟩,rfl⟩
  have hd:∀u,cvC E w (.wn o els.length) u->cvC E w (.d g (.l els)) u:=by
   intro u hu
   rcases hu with⟨_,_,rfl⟩|⟨hu,_⟩
   .subst hels;show rdD _ _ _ _;rw[rdD];simp_all
   simp_all
  refine⟨E,hR.ok,hR.dom,λl y hl=>?_,λj=>IN hd hk hs h1 (hR.sl j),hR.dfr,hR.size,hR.td⟩
  by_cases e:l=o
  .subst e;rw[lZ hb] at hl;cases hl
  exact rx hd hk e (λ_ _ _ h=>h) hb h2 hl (λy hy=>hR.obs l y hy)
 obtain⟨hb1,hb2⟩:=hR.ok.rb o b c hr
 have hb3:cx.w0.heap.size<=b:=hb2.resolve_right (λh=>by simp_all)
 let E':Env:=⟨E.r,λk=>E.F k\/k=b,λk=>E.G k\/(g=true/\k=b),E.T,E.Z,E.n⟩
 have hH:∀g' k,E.H g' k->E'.H g' k:=λg' k hk=>by cases g'<;>exact .inl hk
 have hk:kQ E w E' w:=⟨λ_ _ h=>h,hH,λ_ _ _=>rfl,λ_ _ h=>⟨h,rfl⟩,λ_ h=>⟨h,.refl _ _⟩,rfl⟩
 have hd:∀u,cvC E w (.wn o els.length) u->cvC E' w (.d g (.l els)) u:=by
  intro u hu
  rcases hu with⟨hu,_⟩|⟨_,b',c',hr',rfl⟩
  .simp_all
  rw[hr] at hr';cases hr'
  show rdD _ _ _ _
  rw[rdD]
  refine⟨_,_,rfl,hlc,.inr ⟨b,0,rfl,?_,cT (λ_ _=>rfl) (hH g) rfl _ _ hrd⟩⟩
  cases g
  .exact .inr rfl
  exact .inr ⟨rfl,rfl⟩
 refine⟨E',⟨?_,?_,?_,hR.ok.rb,hR.ok.inj,hR.ok.os,hR.ok.tape,hR.ok.output,hR.ok.size,hR.ok.block,hR.ok.pin,λk hk=>hk.elim (hR.ok.ff k) (λe=>.inr (e▸hb3)),λk hk hk'=>hk.elim (λh=>hR.ok.gc k h hk') (λe=>e▸.mk hh),
  ⟨λl k h=>?_,hR.ok.sf.tt,λk h=>?_,hR.ok.sf.zs,hR.ok.sf.ze⟩⟩,hR.dom,λl y hl=>?_,λj=>IN hd hk hs h1 (hR.sl j),hR.dfr,hR.size,hR.td⟩
 .rintro k (h|rfl)
  .exact hR.ok.fb k h
  exact hb1
 .rintro k (h|⟨_,rfl⟩)
  .exact .inl (hR.ok.gf k h)
  omega
 .rintro k (h|⟨_,rfl⟩)
  .exact hR.ok.gn k h
  omega
 .obtain⟨h1,h2,h3,h4⟩:=hR.ok.sf.tb l k h
  grind
 .obtain⟨h1,h2,h3,h4⟩:=hR.ok.sf.zc k h
  grind
 by_cases e:l=o
 .subst e;rw[lZ hb] at hl;cases hl
 exact rx hd hk e (λb' c' hr' hn hn'=>hn'.elim hn (λh=>by subst h;exact e (hR.ok.inj _ _ _ _ _ hr' hr))) hb h2 hl (λy hy=>hR.obs l y hy)
def RC.frz:RC->RC
 | .own _ _ els _=>.d (.l els)
 |r=>r
def RV.frz:RV->RV
 | .c r=>.c r.frz
 | .agg rs=>.agg (rs.map RC.frz)
def RC.full:RC->Prop
 | .own _ _ els n=>els.length=n
 |_=>True
def Nb:List RC->Prop
 |[]=>True
 |r::rs=>r.full/\Nb rs
def RV.full:RV->Prop
 | .c r=>r.full
 | .agg rs=>Nb rs
def IM:List RV->Prop
 |[]=>True
 |r::rs=>r.full/\IM rs
section
variable {w:World} {G G2:Nat->Prop} {base:Nat}
theorem Vl (hG:∀b,G b->G2 b) {r:RC} {bs:Lac} (h:rcR w G base r u bs) (hf:r.full) (hb:∀p∈bs,G2 p.1):
 rcR w G2 base r.frz u []/\∀p∈bs,base<=p.1/\p.1<w.heap.size/\jv w p.1:=by
 cases r with
 |d x=>obtain⟨rfl,h⟩:=h;exact⟨⟨rfl,cS (λ_ _=>rfl) hG _ _ h⟩,by simp⟩
 |nil=>obtain⟨rfl,h⟩:=h;exact⟨⟨rfl,h⟩,by simp⟩
 |own ty sz els n=>
  obtain⟨b,c,arr,rfl,rfl,hh,h1,h2,h3,h4,h5,h6,h7⟩:=h
  have hf:els.length=n:=hf
  refine⟨⟨rfl,some ⟨b,0,none⟩,c,by rw[hf],h2,.inr ⟨b,0,rfl,hb _ (.head _),cT (λ_ _=>rfl) hG rfl _ _ h5⟩⟩,λp hp=>?_⟩
  obtain rfl:=abg.1 hp
  exact⟨h7,Xv hh,.mk hh⟩
theorem PM (hG:∀b,G b->G2 b):∀{rs:List RC} {us:Lae} {bs:Lac},GT w G base rs us bs->Nb rs->(∀p∈bs,G2 p.1)->
 GT w G2 base (rs.map RC.frz) us []/\∀p∈bs,base<=p.1/\p.1<w.heap.size/\jv w p.1
 |[],[],bs,h,_,_=>by have h:bs=[]:=h;subst h;exact⟨rfl,by simp⟩
 |r::rs,u::us,bs,⟨b1,b2,e,h1,h2⟩,hf,hb=>by
  subst e
  obtain⟨k1,k2⟩:=Vl hG h1 hf.1 (λp hp=>hb p (by simp[hp]))
  obtain⟨k3,k4⟩:=PM hG h2 hf.2 (λp hp=>hb p (by simp[hp]))
  exact⟨⟨[],[],rfl,k1,k3⟩,λp hp=>(aae.1 hp).elim (k2 p) (k4 p)⟩
 |[],_::_,_,h,_,_=>h.elim
 |_::_,[],_,h,_,_=>h.elim
theorem Vy (hG:∀b,G b->G2 b) {r:RV} {bs:Lac} (h:rvR w G base r u bs) (hf:r.full) (hb:∀p∈bs,G2 p.1):
 rvR w G2 base r.frz u []/\∀p∈bs,base<=p.1/\p.1<w.heap.size/\jv w p.1:=by
 cases r with
 |c r=>exact Vl hG h hf hb
 |agg rs=>
  obtain⟨arr,rfl,h⟩:=h
  obtain⟨k1,k2⟩:=PM hG h hf hb
  exact⟨⟨arr,rfl,k1⟩,k2⟩
theorem JJ (hG:∀b,G b->G2 b):∀{rs:List RV} {us:Lae} {bs:Lac},Dq w G base rs us bs->IM rs->(∀p∈bs,G2 p.1)->
 Dq w G2 base (rs.map RV.frz) us []/\∀p∈bs,base<=p.1/\p.1<w.heap.size/\jv w p.1
 |[],[],bs,h,_,_=>by have h:bs=[]:=h;subst h;exact⟨rfl,by simp⟩
 |r::rs,u::us,bs,⟨b1,b2,e,h1,h2⟩,hf,hb=>by
  subst e
  obtain⟨k1,k2⟩:=Vy hG h1 hf.1 (λp hp=>hb p (by simp[hp]))
  obtain⟨k3,k4⟩:=JJ hG h2 hf.2 (λp hp=>hb p (by simp[hp]))
  exact⟨⟨[],[],rfl,k1,k3⟩,λp hp=>(aae.1 hp).elim (k2 p) (k4 p)⟩
 |[],_::_,_,h,_,_=>h.elim
 |_::_,[],_,h,_,_=>h.elim
theorem Ya (hG:∀b,G b->G2 b) {rs:List RV} {bs:Lac} (h:As w G base rs u bs) (hf:IM rs) (hb:∀p∈bs,G2 p.1):
 As w G2 base (rs.map RV.frz) u []/\∀p∈bs,base<=p.1/\p.1<w.heap.size/\jv w p.1:=by
 cases rs with
 |nil=>obtain⟨arr,hu,h⟩:=h;obtain⟨k1,k2⟩:=JJ hG h hf hb;exact⟨⟨arr,hu,k1⟩,k2⟩
 |cons r rs=>
  cases rs with
  |nil=>exact Vy hG h hf.1 hb
  |cons r2 rs=>obtain⟨arr,hu,h⟩:=h;obtain⟨k1,k2⟩:=JJ hG h hf hb;exact⟨⟨arr,hu,k1⟩,k2⟩
end
theorem Fn.frzs {args:List AV} (h:Fn P f args res) (hf:IM res):Fn P f args (res.map RV.frz):=by
 refine⟨h.enters,λF w vals hF ht hA=>(h.calls F w vals hF ht hA).mono ?_⟩
 rintro e w' ⟨v,G,bs,he,hp,hG,hr,_⟩
 obtain⟨k1,k2⟩:=Ya (G2:=λb=>G b\/∃p∈bs,p.1=b) (λb h=>.inl h) hr hf (λp hp=>.inr ⟨p,hp,rfl⟩)
 grind
theorem WX {o:Oper} {needs:List (Operand×T)} (hn:els.length=n)
 (h:AWK P o needs nob (.v (.c (.w q n))) [(q,.row e sz els g true)] [] (some k)):AWK P o needs nob (.v (.c (.d g (.l els)))) [(q,.row e sz els g false)] [] (some k):=by
 intro cx E a w ok hne hnob hfr
 obtain⟨hq1,hq2⟩:=hfr q _ (.head _)
 refine Oper.wp_mono ?_ (h cx E a w ok hne hnob (λl x hm=>by simp_all))
 rintro a' w' ⟨v,E',k1,ok',k3,⟨b,c,hr,hv⟩,k5,k6,k7⟩
 obtain⟨b',c',arr,hr',hh,ha,hlc,hmx,hes,hrd,hFm,_⟩:=k5 q _ (.head _)
 rw[hr] at hr';cases hr'
 have hF:=hFm rfl
 obtain⟨hb1,hb2⟩:=ok'.rb q b c hr
 have hb3:cx.w0.heap.size<=b:=by
  rcases hb2 with h|h
  .exact h
  simp_all
 let E2:Env:=⟨E'.r,λj=>E'.F j\/j=b,λj=>E'.G j\/(g=true/\j=b),E'.T,E'.Z,E'.n⟩
 have hH:∀g' j,E'.H g' j->E2.H g' j:=λg' j hj=>by cases g'<;>exact .inl hj
 have hold:∀l c',k≠l->E.r l≠some (b,c'):=λl c' hkl hl=>by
  have h1:=k3.r l _ (by simp_all) hl
  have:=ok'.inj _ _ _ _ _ h1 hr
  simp_all
 refine⟨v,E2,k1,⟨?_,?_,?_,ok'.rb,ok'.inj,ok'.os,ok'.tape,ok'.output,ok'.size,ok'.block,ok'.pin,λj hj=>hj.elim (ok'.ff j) (λe=>.inr (e▸hb3)),λj hj hj'=>hj.elim (λh=>ok'.gc j h hj') (λe=>e▸.mk hh),
  ⟨λl j h=>?_,ok'.sf.tt,λj h=>?_,ok'.sf.zs,ok'.sf.ze⟩⟩,⟨k3.r,λj hj=>.inl (k3.F j hj),λj hj=>.inl (k3.G j hj),?_,k3.heap,k3.own,k3.ownk,k3.T,k3.Z,k3.n⟩,?_,λl x hm=>?_,(λ_ _ h=>by cases h),λl x hl=>?_⟩
 .rintro j (h|rfl)
  .exact ok'.fb j h
  exact hb1
 .rintro j (h|⟨_,rfl⟩)
  .exact .inl (ok'.gf j h)
  omega
 .rintro j (h|⟨_,rfl⟩)
  .exact ok'.gn j h
  omega
 .obtain⟨h1,h2,h3,h4⟩:=ok'.sf.tb l j h
  grind
 .obtain⟨h1,h2,h3,h4⟩:=ok'.sf.zc j h
  grind
 .rintro j (h|rfl)
  .exact k3.F' j h
  simp_all
 .refine⟨some ⟨b,0,none⟩,c,by rw[hv,hn],hlc,.inr ⟨b,0,rfl,?_,cT (λ_ _=>rfl) (hH g) rfl _ _ hrd⟩⟩
  cases g
  .exact .inr rfl
  exact .inr ⟨rfl,rfl⟩
 .simp at hm;obtain⟨rfl,rfl⟩:=hm
  exact⟨b,c,arr,hr,hh,ha,hlc,hmx,hes,cT (λ_ _=>rfl) (hH g) rfl _ _ hrd,(λh=>by cases h),λ_=>⟨.inr rfl,λhg=>.inr ⟨hg,rfl⟩⟩⟩
 grind
section
variable {P:Program} {N:Nat} {d:Tmp} {ty:TypeId} {ps:String} {af:Array Edge} {gd:Option (Nat×Bool)} {x y:Operand} {sl:Lab} {ob:Laa} {nx:Nat} {α:Type} {enc:α->List D}
theorem Hh {o:Nat} {ys zs:List α} {c:C} (ls:List Nat) [ei P t e sz by_] (H:da by_ (ys++zs).length=true) (hzd:zs.map enc=zd:=by exact rfl) (henc:∀a,(enc a).length=sz:=by exact λ_=>rfl) (hfl:∀a,tM (enc a)=true:=by exact λ_=>rfl)
 (hp:vp ob ls=some nob:=by exact rfl) (hd:nlt d N=true:=by exact rfl) (hx:opT sl x= .v (.c (.w o n)):=by exact rfl) (hy:opT sl y= .v (.c c):=by exact rfl) (hn:ys.length=n:=by first|rfl|simp) (hs:Src nob c zd gy:=by first|exact .d|exact .nil|exact .w rfl (by first|rfl|exact lm _|simp)|exact .wn rfl (by first|rfl|exact lm _|simp)) (ho:go nob o=some (.row e sz (ys.map enc) g true):=by exact rfl) (hrv:rsv o=false:=by exact rfl) (hnx:nxt nx=some nx':=by exact rfl):
 NX P N ⟨some d,.call ⟨.builtin .append,#[x,y],#[t,t]⟩,ty,ps,af,gd⟩ ⟨sl,ob,nx⟩ ⟨(d,.v (.c (.d true (.l ((ys++zs).map enc)))))::sl,(nx,.row e sz ((ys++zs).map enc) true false)::ob,nx'⟩
  ⟨⟨d,[(x,.v (.c (.w o n))),(y,.v (.c c))],nob,.v (.c (.d true (.l ((ys++zs).map enc)))),[(nx,.row e sz ((ys++zs).map enc) true false)]⟩,[],some o⟩:=by
 obtain⟨h1,h2,h3,h4,h5,h6⟩:=Gt (P:=P) (N:=N) (t:=t) (x:=x) (y:=y) (enc:=enc) (d:=d) (ty:=ty) (ps:=ps) (af:=af) (gd:=gd) (sl:=sl) (ob:=ob) (nx:=nx) ls H hzd henc hfl hp hd hx hy hn hs ho hrv hnx
 exact⟨WX (by simp) h1,.inl ⟨rfl,dt hd⟩,h3,h4,pB hnx,rfl⟩
end
theorem fy {o:Nat} {ob:Laa} {vt:TypeId} {cs':List C} (ho:go ob o=some (.var vt cs):=by exact rfl) (hj:RQ j (.d true (.l [])) cs=some cs':=by exact rfl):dQ N ⟨sl,ob,nx⟩ ⟨sl,(o,.var vt cs')::ob,nx⟩:=by
 intro cx E a w hR
 refine⟨E,hR.ok,hR.dom,λl x hl=>?_,hR.sl,hR.dfr,hR.size,hR.td⟩
 by_cases e:o=l
 .subst e
  rw[cI] at hl;cases hl
  obtain⟨b,c,arr,h1,h2,h3,h4⟩:=hR.obs o _ ho
  exact⟨b,c,arr,h1,h2,JT (x:=.d true (.l [])) ⟨none,0,rfl,aah _,.inl rfl⟩ hj h3 h3,h4⟩
 rw[b7 _ _ e] at hl;exact hR.obs l x hl
section
variable {P:Program} {N:Nat} {ops:Array Oper} {p:Nat} {o:Oper} {l:List (Nat×Oper)} {dn seg:List Nat} {ys:List Inx} {base:St} {K:St->Prop}
theorem vZ {ds:List Nat} {ob:Laa} {st0 st1:St} (hs:zZ ops dn seg ys=true) (hkl:kls ys=ds) (hA:E6 ds sl ob=some (sl',ob')) (hb:Hi ops (seg++dn) p=true)
 (hw:dQ N ⟨sl',ob',nx⟩ st0) (h:BO P N ops o st0 st1) (hw2:dQ N st1 st2) {dn':List Nat} (hlo:p::(seg++dn)=dn') (h':DZ P N ops l dn' [] [] st2 st2 K):DZ P N ops ((p,o)::l) dn seg ys base ⟨sl,ob,nx⟩ K:=by
 subst hlo
 exact .inr ⟨hs,hb,_,st0,st1,st2,Ei hkl hA,hw,h,hw2,h'⟩
end
structure KG (q l:Nat) (E:Env) (w:World) (E':Env) (w':World):Prop where
 r:∀o x,o≠q->E.r o=some x->E'.r o=some x
 H:∀g b,E.H g b->E'.H g b
 heap:∀g b,E.H g b->w'.heap[b]?=w.heap[b]?
 T:∀k b,k≠l->E.T k b->E'.T k b/\w'.heap[b]?=w.heap[b]?
 Z:∀b,E.Z b->E'.Z b/\sD w w' b
 n:∀o,o≠q->(E'.n o↔E.n o)
section
variable {q l:Nat} {E E':Env} {w w':World}
theorem Tr (x:KG q l E w E' w'):∀{c:C} {u:Value},c.has q=false->c.hasR l=false->cvC E w c u->cvC E' w' c u
 | .d g d,u,_,_,h=>cS (x.heap g) (x.H g) d u h
 | .w o n,u,ho,_,⟨b,c,h,hu⟩=>⟨b,c,x.r _ _ (jl ho) h,hu⟩
 | .s o sz off len,u,ho,_,⟨A,c,b,k,h,hu⟩=>⟨A,c,b,k,x.r _ _ (jl ho) h,hu⟩
 | .p o k,u,ho,_,⟨b,c,h,hu⟩=>⟨b,c,x.r _ _ (jl ho) h,hu⟩
 | .e o sz i j,u,ho,_,⟨b,c,h,hu⟩=>⟨b,c,x.r _ _ (jl ho) h,hu⟩
 | .q g y j,u,_,_,⟨b,k,hu,hb,h⟩=>⟨b,k,hu,x.H g b hb,rdL_mono (x.heap g) (x.H g) y b k hb h⟩
 | .fn f,u,_,_,h=>h
 | .nil,u,_,_,h=>h
 | .any,u,_,_,_=>trivial
 | .r k d,u,_,hl,h=>cS (λb hb=>(x.T k b (jl hl) hb).2) (λb hb=>(x.T k b (jl hl) hb).1) d u h
 | .z d,u,_,_,h=>vx (λb hb=>(x.Z b hb).2) (λb hb=>(x.Z b hb).1) d u h
 | .zq y j,u,_,_,⟨b,k,hu,hb,h⟩=>⟨b,k,hu,(x.Z b hb).1,rsL_mono (λb hb=>(x.Z b hb).2) (λb hb=>(x.Z b hb).1) y b k hb h⟩
 | .wn o n,u,ho,_,.inl ⟨h1,h2⟩=>.inl ⟨(x.n o (jl ho)).2 h1,h2⟩
 | .wn o n,u,ho,_,.inr ⟨h1,b,c,h,hu⟩=>.inr ⟨λk=>h1 ((x.n o (jl ho)).1 k),b,c,x.r _ _ (jl ho) h,hu⟩
theorem SE (x:KG q l E w E' w'):∀{cs:List C} {us:Lae},CO q cs=false->KY l cs=false->CV E w cs us->CV E' w' cs us
 |[],[],_,_,_=>trivial
 |c::cs,u::us,h1,h2,h=>by
  simp only[CO,KY,aam] at h1 h2
  exact⟨Tr x h1.1 h2.1 h.1,SE x h1.2 h2.2 h.2⟩
 |[],_::_,_,_,h=>h.elim
 |_::_,[],_,_,h=>h.elim
theorem Tu (x:KG q l E w E' w') {v:V} (h1:v.has q=false) (h2:v.hasR l=false) (h:cvV E w v u):cvV E' w' v u:=by
 cases v with
 |c c=>exact Tr x h1 h2 h
 |agg cs=>obtain⟨arr,hu,h⟩:=h;exact⟨arr,hu,SE x h1 h2 h⟩
theorem YO (x:KG q l E w E' w'):∀{cs:List V} {us:Lae},Hy q cs=false->IP l cs=false->VV E w cs us->VV E' w' cs us
 |[],[],_,_,_=>trivial
 |c::cs,u::us,h1,h2,h=>by
  simp only[Hy,IP,aam] at h1 h2
  exact⟨Tu x h1.1 h2.1 h.1,YO x h1.2 h2.2 h.2⟩
 |[],_::_,_,_,h=>h.elim
 |_::_,[],_,_,h=>h.elim
theorem ZD (x:KG q l E w E' w') {t:T} (h1:t.has q=false) (h2:t.hasR l=false) (h:cvT E w t u):cvT E' w' t u:=by
 cases t with
 |v v=>exact Tu x h1 h2 h
 |tup ts=>obtain⟨arr,hu,h⟩:=h;exact⟨arr,hu,YO x h1 h2 h⟩
 |any=>trivial
def Ob.hasR (l:Nat):Ob->Bool
 | .var _ cs=>KY l cs
 | .abs j _=>d0 j l
 |_=>false
theorem Vr (x:KG q l E w E' w') {o:Nat} {ob:Ob} (ho:o≠q) (h1:ob.hasO q=false) (h2:ob.hasR l=false) (hb:∀b c,E.r o=some (b,c)->w'.heap[b]?=w.heap[b]?) (hF:∀b c,E.r o=some (b,c)->¬E.F b->¬E'.F b) (h:df E w o ob):df E' w' o ob:=by
 cases ob with
 |var ty cs=>
  obtain⟨b,c,arr,hr,hh',hc,hf⟩:=h
  exact⟨b,c,arr,x.r _ _ ho hr,(hb b c hr).trans hh',SE x h1 h2 hc,hF b c hr hf⟩
 |row ty sz els g m=>
  obtain⟨b,c,arr,hr,hh',a1,a2,a3,a4,a5,a6,a7⟩:=h
  exact⟨b,c,arr,x.r _ _ ho hr,(hb b c hr).trans hh',a1,a2,a3,a4,cT (x.heap g) (x.H g) (hb b c hr) _ _ a5,λhm=>hF b c hr (a6 hm),λhm=>⟨x.H false b (a7 hm).1,λhg=>x.H true b ((a7 hm).2 hg)⟩⟩
 |rown ty sz els g=>
  rcases h with⟨h0,h1⟩|⟨h0,b,c,arr,hr,hh',a1,a2,a3,a4,a5,a6⟩
  .exact .inl ⟨(x.n o ho).2 h0,h1⟩
  exact .inr ⟨λh=>h0 ((x.n o ho).1 h),b,c,arr,x.r _ _ ho hr,(hb b c hr).trans hh',a1,a2,a3,a4,cT (x.heap g) (x.H g) (hb b c hr) _ _ a5,hF b c hr a6⟩
 |abs j y=>
  rcases h with⟨h0,h1⟩|⟨h0,b,c,hr,a1,a2⟩
  .exact .inl ⟨(x.n o ho).2 h0,h1⟩
  exact .inr ⟨λh=>h0 ((x.n o ho).1 h),b,c,x.r _ _ ho hr,y.st _ _ _ _ _ _ a1 (λk hk=>(x.T j k (jl h2) hk).1) (hb b c hr) (λk hk=>(x.T j k (jl h2) hk).2),hF b c hr a2⟩
end
def B6 (o:Nat):Laa->Laa
 |[]=>[]
 |(k,x)::r=>bif d0 k o then B6 o r else(k,x)::B6 o r
theorem AW {o l:Nat} {x:Ob}:∀{ob:Laa},go (B6 o ob) l=some x->l≠o/\go ob l=some x
 |[],h=>by cases h
 |(k,y)::r,h=>by
  rw[B6] at h
  cases hk:d0 k o with
  |true=>
   rw[hk] at h
   obtain⟨h1,h2⟩:=AW h
   have:=aad hk;subst this
   exact⟨h1,by rw[b7 _ _ (Ne.symm h1)];exact h2⟩
  |false=>
   rw[hk] at h
   by_cases e:k=l
   .subst e
    simp only[cond_false] at h
    rw[cI] at h ⊢;exact⟨jl hk,h⟩
   simp only[cond_false] at h
   rw[b7 _ _ e] at h ⊢;exact AW h
def okO (q l:Nat):Laa->Bool
 |[]=>true
 |(_,x)::r=>(!x.hasO q&&!x.hasR l)&&okO q l r
theorem U3 {q l o:Nat} {x:Ob}:∀{ob:Laa},okO q l ob=true->go ob o=some x->x.hasO q=false/\x.hasR l=false
 |[],_,h=>by cases h
 |(k,y)::r,h0,h=>by
  simp only[okO,hV,aaw] at h0
  by_cases e:k=o
  .subst e;rw[cI] at h;simp_all
  rw[b7 _ _ e] at h;exact U3 h0.2 h
theorem JD {cx cx':Cx} {o:Nat} {sl1 sl2:Lab} {ob1:Laa} (hR:Rel N cx E st a w) (ok':dJ cx' E' w') (kg:KG q l E w E' w')
 (h1:oF q st.sl=some sl1) (h2:CL l sl1=some sl2) (h3:B6 q (B6 o st.ob)=ob1) (h4:okO q l ob1=true) (hy:df E' w' o y)
 (hb:∀k b c,k≠q->k≠o->E.r k=some (b,c)->w'.heap[b]?=w.heap[b]?) (hF:∀k b c,k≠q->k≠o->E.r k=some (b,c)->¬E.F b->¬E'.F b) (hdom:∀o x,E'.r o=some x->o<nx') (htd:∀l b,E'.T l b->l<nx'):
 Rel N cx' E' ⟨sl2,(o,y)::ob1,nx'⟩ a w':=by
 subst h3
 refine⟨ok',hdom,λk x hk=>?_,λk=>?_,hR.dfr,hR.size,htd⟩
 .by_cases e:o=k
  .subst e
   rw[cI] at hk;simp_all
  rw[b7 _ _ e] at hk
  obtain⟨k1,k2⟩:=U3 h4 hk
  obtain⟨k3,k4⟩:=AW hk
  obtain⟨k5,k6⟩:=AW k4
  exact Vr kg k3 k1 k2 (λb c hr=>hb k b c k3 k5 hr) (λb c hr=>hF k b c k3 k5 hr) (hR.obs k x k6)
 rcases KO h2 k with e|⟨e1,e2⟩
 .show cvT E' w' (gt sl2 k) _;rw[e];trivial
 rcases yb h1 k with e|⟨e3,e4⟩
 .show cvT E' w' (gt sl2 k) _;rw[e1,e];trivial
 show cvT E' w' (gt sl2 k) _
 rw[e1,e3]
 exact ZD kg e4 (by simp_all) (hR.sl k)
def nv:Option (Nat×Nat)->Nat->Value
 |none,_=>.slice none 0 0
 |some (k,c),n=>.slice (some ⟨k,0,none⟩) n c
def DW (w:World) (nt:TypeId) (k c:Nat) (xs:List Int):Prop:=(∃arr,w.heap[k]?=some (.cells arr nt (0,0))/\arr.size=c)/\xs.length<=c/\c<=maxLen/\∀j x,xs[j]?=some x->w.cell? ⟨k,j,none⟩=some (.int .i64 x)
def Ot (w:World) (R:Nat->Prop) (nt:TypeId):Option (Nat×Nat)->List Int->Prop
 |none,xs=>xs=[]
 |some (k,c),xs=>R k/\DW w nt k c xs
theorem DW.rd {c:Nat} {xs:List Int} (h:DW w nt k c xs) (F:Nat->Prop):rdLL w F (xs.map eI) k 0:=by
 refine wv (sz:=1) (by simp[eI]) λi e hi=>?_
 rw[aaN] at hi
 cases hx:xs[i]? with
 |none=>simp_all
 |some x=>
  rw[hx] at hi;cases hi
  rw[eI,rdL,rdL]
  exact⟨⟨_,by simpa using h.2.2.2 i x hx,by rw[rdD]⟩,trivial⟩
theorem DW.of {c:Nat} {xs:List Int} {F:Nat->Prop} {arr:Array Value} (hh:w.heap[k]?=some (.cells arr nt (0,0))) (ha:arr.size=c*1) (hl:(xs.map eI).length<=c) (hc:c<=maxLen) (h:rdLL w F (xs.map eI) k 0):DW w nt k c xs:=by
 refine⟨⟨arr,hh,by omega⟩,by simp_all,hc,λj x hx=>?_⟩
 have:=rL (sz:=1) (i:=j) (e:=eI x) h (by simp[eI]) (by simp_all)
 rw[eI,rdL] at this
 obtain⟨u,h1,h2⟩:=this.1
 rw[rdD] at h2;simp_all
theorem DW.keep {c:Nat} {xs:List Int} (h:DW w nt k c xs) (hk:w'.heap[k]?=w.heap[k]?):DW w' nt k c xs:=by
 obtain⟨⟨arr,h1,h2⟩,h3,h4,h5⟩:=h
 exact⟨⟨arr,hk.trans h1,h2⟩,h3,h4,λj x hx=>(vW hk).trans (h5 j x hx)⟩
theorem Ot.keep {R R':Nat->Prop} {h:Option (Nat×Nat)} {xs:List Int} (hn:Ot w R nt h xs) (hR:∀k c,h=some (k,c)->R k->R' k) (hk:∀k c,h=some (k,c)->R k->w'.heap[k]?=w.heap[k]?):Ot w' R' nt h xs:=by
 cases h with
 |none=>exact hn
 |some p=>exact⟨hR _ _ rfl hn.1,hn.2.keep (hk _ _ rfl hn.1)⟩
def Hid.loc (nt:TypeId) (A:Option Addr) (n c:Nat) (xs:List Int):Hid where
 nl:=A=none/\n=0/\c=0/\xs=[]
 S:=λb k R w=>A=some ⟨b,0,none⟩/\c=k/\n=xs.length/\DW w nt b k xs
 st:=by
  rintro b c' R R' w w' ⟨h1,h2,h3,h4⟩ hR hb hk
  exact⟨h1,h2,h3,h4.keep hb⟩
abbrev ML:=Option (Nat×Option Addr×Nat×Nat)
def Ag:ML->Nat->Bool
 |none,_=>false
 |some (j,_),i=>d0 j i
structure CxS (ty nt:TypeId) (els:List (Int×List Int)) (ho:ML) (b c:Nat) (R:Nat->Prop) (w:World) (hd:Nat->Option (Nat×Nat)):Prop where
 blk:∃arr,w.heap[b]?=some (.cells arr ty (0,0))/\arr.size=c*2
 len:els.length<=c
 cap:c<=maxLen
 a:∀i e,els[i]?=some e->w.cell? ⟨b,i*2,none⟩=some (.int .i64 e.1)
 s:∀i e,els[i]?=some e->Ag ho i=false->w.cell? ⟨b,i*2+1,none⟩=some (nv (hd i) e.2.length)
 ne:∀i e,els[i]?=some e->Ag ho i=false->Ot w R nt (hd i) e.2
 inj:∀i j k c c',i<els.length->j<els.length->Ag ho i=false->Ag ho j=false->hd i=some (k,c)->hd j=some (k,c')->i=j
 h:∀i A n k,ho=some (i,A,n,k)->w.cell? ⟨b,i*2+1,none⟩=some (.slice A n k)
def Hid.cx (ty nt:TypeId) (els:List (Int×List Int)) (ho:ML):Hid where
 nl:=els=[]
 S:=λb c R w=>∃hd,CxS ty nt els ho b c R w hd
 st:=by
  rintro b c R R' w w' ⟨hd,h⟩ hR hb hk
  obtain⟨⟨arr,h1,h2⟩,h3,h4,h5,h6,h7,h8,h9⟩:=h
  exact⟨hd,⟨arr,hb.trans h1,h2⟩,h3,h4,λi e hi=>(vW hb).trans (h5 i e hi),λi e hi hh=>(vW hb).trans (h6 i e hi hh),λi e hi hh=>(h7 i e hi hh).keep (λk _ _ hk=>hR k hk) (λk _ _ h=>hk k h),h8,λi A n k hh=>(vW hb).trans (h9 i A n k hh)⟩
abbrev Ob.cxo (o:Nat) (ty nt:TypeId) (els:List (Int×List Int)) (ho:ML):Ob:=.abs o (Hid.cx ty nt els ho)
section
variable {P:Program} {d:Option Tmp} {tt:TypeId} {ps:String} {af:Array Edge} {gd:Option (Nat×Bool)} {x y:Operand}
theorem Dz {o:Nat} {els:List (Int×List Int)} {ho:ML} {e:Int×List Int} (he:els[i]?=some e) (h:df E w o (.cxo o ty nt els ho)):
 ¬E.n o/\∃b c hd,E.r o=some (b,c)/\CxS ty nt els ho b c (E.T o) w hd/\¬E.F b:=by
 rcases h with⟨_,h1⟩|⟨h0,b,c,hr,⟨hd,h1⟩,h2⟩
 .have h1:els=[]:=h1
  simp_all
 grind
theorem Rf {o:Nat} {els:List (Int×List Int)} {ho:ML} {e:Int×List Int} [jw P t] (he:els[i]?=some e) (hh:Ag ho i=false):
 AWN P ⟨d,.load t x,tt,ps,af,gd⟩ [(x,.v (.c (.e o 2 i 1)))] [(o,.cxo o ty nt els ho)] (.v (.c (.r o (.l (e.2.map eI))))) []:=
 cE λE ac w hn hb=>by
  obtain⟨b,c',hr,hu⟩:=hn x _ (.head _)
  obtain⟨_,b',c'',hd,hr',hS,_⟩:=Dz he (hb o _ (.head _))
  rw[hr] at hr';cases hr'
  refine⟨nv (hd i) e.2.length,by simp[execOp,hu,nm (P:=P) (t:=t) (hS.s i e he hh)],?_⟩
  have hne:=hS.ne i e he hh
  show rdD w (E.T o) (.l (e.2.map eI)) _
  cases hdi:hd i with
  |none=>
   rw[hdi] at hne
   have hne:e.2=[]:=hne
   rw[hne];exact⟨none,0,rfl,aah _,.inl rfl⟩
  |some p=>
   obtain⟨k,cc⟩:=p
   rw[hdi] at hne
   exact⟨some ⟨k,0,none⟩,cc,by simp[nv],by simpa using hne.2.2.1,.inr ⟨k,0,rfl,hne.1,hne.2.rd _⟩⟩
theorem Ls {o:Nat} {els:List (Int×List Int)} {A:Option Addr} {e:Int×List Int} [jw P t] (he:els[i]?=some e):
 AWN P ⟨d,.load t x,tt,ps,af,gd⟩ [(x,.v (.c (.e o 2 i 1)))] [(o,.cxo o ty nt els (some (i,A,n,k)))] (.v (.c (.d false (.k A n k)))) []:=
 cE λE ac w hn hb=>by
  obtain⟨b,c',hr,hu⟩:=hn x _ (.head _)
  obtain⟨_,b',c'',hd,hr',hS,_⟩:=Dz he (hb o _ (.head _))
  rw[hr] at hr';cases hr'
  exact⟨.slice A n k,by simp[execOp,hu,nm (P:=P) (t:=t) (hS.h i A n k rfl)],by rfl⟩
end
section
variable {P:Program} {N:Nat} {d:Tmp} {tt:TypeId} {ps:String} {af:Array Edge} {gd:Option (Nat×Bool)} {x y:Operand} {sl sl1 sl2:Lab} {ob ob1:Laa} {nx:Nat}
theorem VZ {c:C} {ys:Lad} {h:Hid} {z:Ob} (hs:Src nob c ys g) (hq:go nob q=some (.abs l h)):Src ((q,z)::nob) c ys g:=by
 cases hs with
 |d=>exact .d
 |nil=>exact .nil
 |w h1 hn=>exact .w (by rw[b7 _ _ (λe=>by simp_all)];exact h1) hn
 |s h1 hn=>exact .s (by rw[b7 _ _ (λe=>by simp_all)];exact h1) hn
 |wn h1 hn=>exact .wn (by rw[b7 _ _ (λe=>by simp_all)];exact h1) hn
theorem IZ {nt c:Nat} {xs:List Int} {ys:Lad} {cc:C} [ht:ei P t nt 1 by_] (hrv:rsv q=false)
 (ho:go nob q=some (.abs l (Hid.loc nt (some ⟨k,0,none⟩) n c xs))) (hs:Src nob cc ys gy) (hn:xs.length=n) (hsz:∀e∈ys,e.length=1) (hb:(n+ys.length)*by_<=140737488355328) (h63:n+ys.length<=9223372036854775807):
 AWK P ⟨some d,.call ⟨.builtin .append,#[x,y],#[t,t]⟩,tt,ps,af,gd⟩ [(x,.v (.c (.d false (.k (some ⟨k,0,none⟩) n c)))),(y,.v (.c cc))] nob (.v (.c (.w p (n+ys.length)))) [(p,.row nt 1 (xs.map eI++ys) (true&&gy) true)] [] (some q):=by
 intro cx E a w ok hne hnob hfr
 have hq:=hnob q _ (Af ho)
 rcases hq with⟨_,h1⟩|⟨_,b,c',hr,⟨h1,h2,h3,⟨⟨arr,h4,h5⟩,h6,h7,h8⟩⟩,hF⟩
 .have h1:some (⟨k,0,none⟩:Addr)=none/\_:=h1
  cases h1.1
 cases h1
 subst h2
 have hrow:df E w q (.row nt 1 (xs.map eI) true true):=⟨k,c,arr,hr,h4,by omega,by grind,h7,by simp[eI],DW.rd ⟨⟨arr,h4,h5⟩,h6,h7,h8⟩ _,λ_=>hF,λh=>by cases h⟩
 refine Ld (P:=P) (d:=d) (ty:=tt) (ps:=ps) (af:=af) (gd:=gd) (x:=x) (y:=y) (t:=t) (e:=nt) (sz:=1) (by_:=by_) (o:=q) (q:=p) (n:=n) (els:=xs.map eI) (g:=true) (nob:=(q,.row nt 1 (xs.map eI) true true)::nob) hrv (cI _ _ _) (VZ hs ho) (by grind) hsz hb h63 cx E a w ok (λx' t' hm=>?_) (λl' ob' hm=>?_) hfr
 .rcases aaf.1 hm with e|hm
  .cases e
   have:=hne x _ (.head _)
   have:a.eval x= .slice (some ⟨k,0,none⟩) n c:=this
   exact⟨k,c,hr,this⟩
  grind
 grind
theorem apk {nt c:Nat} {xs zs:List Int} {cc:C} (ls:List Nat) [ei P t nt 1 by_] (H:da by_ (xs++zs).length=true) (hzd:zs.map eI=zd) (hn:xs.length=n)
 (hp:vp ob ls=some nob) (hs:Src nob cc zd true) (hd:nlt d N=true) (hx:opT sl x= .v (.c (.d false (.k (some ⟨k,0,none⟩) n c)))) (hy:opT sl y= .v (.c cc)) (ho:go nob q=some (.abs l (Hid.loc nt (some ⟨k,0,none⟩) n c xs))) (hrv:rsv q=false) (hnx:nxt nx=some nx'):
 NX P N ⟨some d,.call ⟨.builtin .append,#[x,y],#[t,t]⟩,tt,ps,af,gd⟩ ⟨sl,ob,nx⟩ ⟨(d,.v (.c (.w nx (xs++zs).length)))::sl,(nx,.row nt 1 ((xs++zs).map eI) true true)::ob,nx'⟩
  ⟨⟨d,[(x,.v (.c (.d false (.k (some ⟨k,0,none⟩) n c)))),(y,.v (.c cc))],nob,.v (.c (.w nx (xs++zs).length)),[(nx,.row nt 1 ((xs++zs).map eI) true true)]⟩,[],some q⟩:=by
 subst hzd
 simp only[da,decide_eq_true_eq,aaz] at H
 have:=IZ (P:=P) (d:=d) (tt:=tt) (ps:=ps) (af:=af) (gd:=gd) (x:=x) (y:=y) (t:=t) (nt:=nt) (by_:=by_) (p:=nx) (n:=n) hrv ho hs hn (by simp[eI]) (by simp_all) (by simp_all)
 rw[<-abe,aaI,<-hn,<-aaz] at this
 exact⟨by simp_all,.inl ⟨rfl,dt hd⟩,⟨hx,hy,trivial⟩,vq hp,pB hnx,rfl⟩
theorem apNk {nt:Nat} {zs:List Int} {cc:C} (ls:List Nat) [ei P t nt 1 by_] (H:da by_ zs.length=true) (hne:zs≠[]) (hzd:zs.map eI=zd)
 (hp:vp ob ls=some nob) (hs:Src nob cc zd true) (hd:nlt d N=true) (hx:opT sl x= .v (.c (.d false (.k none 0 0)))) (hy:opT sl y= .v (.c cc)) (hnx:nxt nx=some nx'):
 NS P N ⟨some d,.call ⟨.builtin .append,#[x,y],#[t,t]⟩,tt,ps,af,gd⟩ ⟨sl,ob,nx⟩ ⟨(d,.v (.c (.w nx zs.length)))::sl,(nx,.row nt 1 (zs.map eI) true true)::ob,nx'⟩
  ⟨d,[(x,.v (.c (.d false (.k none 0 0)))),(y,.v (.c cc))],nob,.v (.c (.w nx zs.length)),[(nx,.row nt 1 (zs.map eI) true true)]⟩:=by
 subst hzd
 simp only[da,decide_eq_true_eq] at H
 have h1:=Jl (P:=P) (d:=d) (ty:=tt) (ps:=ps) (af:=af) (gd:=gd) (x:=x) (y:=y) (t:=t) (e:=nt) (sz:=1) (by_:=by_) (q:=nx) hs (by simp_all) (by simp[eI]) (by simp_all) (by simp_all)
 rw[aaI] at h1
 refine⟨λcx E a w ok hnd hnob hfr=>h1 cx E a w ok (λx' t' hm=>?_) hnob hfr,rfl,dt hd,⟨hx,hy,trivial⟩,vq hp,pB hnx,rfl⟩
 rcases aaf.1 hm with e|hm
 .cases e
  have h:a.eval x= .slice none 0 0:=hnd x (.v (.c (.d false (.k none 0 0)))) (.head _)
  exact h
 simp_all
end
end Go.AM
