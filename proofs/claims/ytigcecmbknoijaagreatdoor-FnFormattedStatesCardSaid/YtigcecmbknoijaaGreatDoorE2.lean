/- A part. -/
import Derived.Test.YtigcecmbknoijaaGreatDoorE1
import Derived.Laws.BytesString
set_option linter.unusedVariables false
set_option linter.unusedSimpArgs false
set_option maxHeartbeats 4000000
open Option renaming some->ς,none->ξ
open Bool renaming true->ζ,false->η
open True renaming intro->θ
open Nat renaming eq_of_beq_eq_true->Yf,beq->f4,lt_of_lt_of_le->Yr,zero_add->Yl,le_refl->Yj,le_of_ble_eq_true->YJ,lt_or_ge->Yx,zero_le->Yu,le_trans->Y9,min_eq_left->Za,lt_trichotomy->Zm,ble->Yk,add_zero->YN
open List renaming getElem?_eq_getElem->Yb,getElem?_eq_some_iff->Yc,mem_of_getElem?->Yd,pairwise_iff_getElem->YE,all_eq_true->Yi,mem_append->Ye,mem_cons->Yh,range->v0,getElem?_append_right->Ys,all_cons->Yy,getElem?_append_left->Yt,map_cons->Yq,eq_nil_of_length_eq_zero->YD,mem_of_mem_take->YG,cons_append->Yv,getElem?_of_mem->Yn,getD_eq_getElem?_getD->Zo,map_append->Y8,getElem?_take->YK,filter_cons_of_pos->Zi,filter_cons_of_neg->Zj,nodup_append->Zl,findIdx?_eq_some_iff_getElem->YR,length_cons->Yg,any_eq_true->YF,map_nil->Y7,length_map->YA,mem_map->Y3,flatten_append->Zb,length_append->YB,exists_mem_of_ne_nil->Zp,findIdx?_eq_none_iff->YU,length_take->Zd,map_toArray->Zg,nodup_cons->YT,filter_eq_nil_iff->Zq,take_succ_cons->YH,mem_singleton->Y5,mapM_toArray->Zn,filter_congr->Zr,nodup_range->Zs,nil_append->Y4,map_take->Zk,map_drop->Zh
open Bool renaming false_ne_true->Y6,and_eq_true->hV,or_eq_true->Yw,eq_false_iff->Zc,or_eq_false_iff->Yp,not_eq_true'->Yz,not_true->Ze
open Array renaming replicate->Ym,getElem?_eq_getElem->YC,getElem?_append_left->Zf,toArray_toList->YQ
namespace Go.AM
open Go.RowKit
variable{α:Type}{b k n e sz nx N nx' j i l p q:Nat}{w w':World}{t t' ty:TypeId}{els zd:Go.AM.Lad}{g gy g' m:Bool}{sl sl':Go.AM.Lab}{a:Act}{r:Int}{E E':Go.AM.Env}{x y:Go.AM.Ob}{u:Value}{P:Program}{st s st2:Go.AM.St}{res:List Go.AM.RV}{rs:List ResultVar}{f:FuncId}{args:List Operand}{ps:String}{af:Array Edge}{gd:Option (Nat×Bool)}{tys:Array TypeId}{ts ts':List Go.AM.T}{out out':Go.AM.T}{nw ob' nob:Go.AM.Laa}{cs cs':List Go.AM.C}{listed:Array Bool}
def cpL(els ys:List α):List α:=ys.take els.length++els.drop ys.length
theorem KY{β:Type}(f:α->β)(els ys:List α):cpL (els.map f) (ys.map f)=(cpL els ys).map f:=by simp[cpL,Zk,Zh]
@[simp] theorem cpL_len (els ys:List α):(cpL els ys).length=els.length:=by simp[cpL];omega
section
variable{P:Program}{N:Nat}{d:Tmp}{ty:TypeId}{ps:String}{af:Array Edge}{gd:Option (Nat×Bool)}{x y z:Operand}{st:St}
theorem xb{us:Lae}(hn:us.length=n)(h:∀(j:Nat) (u:Value),us[j]?=ς u->w.cell? ⟨b,k+j,ξ⟩=ς u):
 (loadCells ⟨b,k,ξ⟩ n).run P w= .ok us.toArray w:=by
 subst hn
 have:=jX (P:=P) (b:=b) (k:=k) (w:=w) us 0 #[] (λj u hj=>by simp_all)
 simpa [loadCells] using this
theorem QZ{by_ o:Nat}{ys:Lad}{c:C}[ht:dB P t e sz by_](hd:d<N)(hx:opT st.sl x= .v (.c (.w o n)))(hy:opT st.sl y= .v (.c c))(ho:go st.ob o=ς (.row e sz els g ζ))(hs:Src st.ob c ys gy)(hn:els.length=n)(hsz:∀e∈ys,e.length=sz):
 AWO P N ⟨ς d,.call ⟨.builtin .copy,#[x,y],#[t,t]⟩,ty,ps,af,gd⟩ st ⟨(d,.any)::st.sl,(o,.row e sz (cpL els ys) (g&&gy) ζ)::st.ob,st.nx⟩:=by
 intro cx E a w hR
 have h1:=hR.op x;rw[hx] at h1
 have h2:=hR.op y;rw[hy] at h2
 obtain⟨b,cc,hr,hu⟩:=h1
 obtain⟨b',c',arr,hr',hh,ha,hlc,hmx,hes,hrd,hFm,_⟩:=hR.obs o _ ho
 rw[hr] at hr';cases hr'
 have hF:=hFm rfl
 obtain⟨A,k,hv,hyk,hA⟩:=Kw hR hs h2
 obtain⟨ii,zz,i1,i2,i3,i4,i5⟩:=ht.i
 obtain⟨m,hm⟩:∃m,m=Nat.min ys.length n:=⟨_,rfl⟩
 have hm1:m<=ys.length:=by rw[hm];exact Nat.min_le_left _ _
 have hm2:m<=n:=by rw[hm];exact Nat.min_le_right _ _
 have hcp:cpL els ys=ys.take m++els.drop m:=by
  unfold cpL
  rw[hn]
  rcases Nat.le_total ys.length n with h|h
  .grind
  simp_all
 have hsrc:∃news:Lae,news.length=m*sz/\(∀u∈news,u.oneCell'=ζ)/\(∀(j:Nat) (xd:D),(ys.take m).flatten[j]?=ς xd->∃u,news[j]?=ς u/\rdD w (E.H gy) xd u)/\
  (Builtin.firstCells sz m (.slice A ys.length k)).run P w= .ok news.toArray w:=by
  rcases hA with h0|⟨b2,off,rfl,hrd2⟩
  .subst h0
   have hm0:m=0:=by simpa using hm1
   refine⟨[],by simp[hm0],by simp,by simp,?_⟩
   cases A with
   |none=>rfl
   |some ad=>simp[Builtin.firstCells,hm0,loadCells,loadCellsFrom]
  obtain⟨us,q1,q2,q3,q4⟩:=qf (ew.1 (nY m hrd2))
  have ql:us.length=m*sz:=by
   rw[q1,eX (λe he=>hsz e (YG he)),Zd,Za hm1]
  refine⟨us,ql,q3,q4,?_⟩
  simp only[Builtin.firstCells]
  exact xb ql (λj u hj=>by have:=q2 j u hj;rwa [rK] at this)
 obtain⟨news,n1,n2,n3,n4⟩:=hsrc
 have hmul:m*sz<=arr.size:=by rw[ha];exact Nat.mul_le_mul_right _ oaa
 have hst:=run_storeCells_at (P:=P) b 0 e news 0 arr w hh (by simp;omega) n2
 have hrun:(Builtin.copy_ #[t,t] ty #[.slice (ς ⟨b,0,ξ⟩) n cc,.slice A ys.length k]).run P w= .ok (goInt m) (w.setRow b (news++arr.toList.drop (m*sz)).toArray):=by
  simp only[Yl,n1] at hst
  simp only[Builtin.copy_]
  simp[underlying,ht.u,Builtin.lenOf,eA i1,i2]
  rw[<-hm,n4]
  simp[hst]
 unfold Oper.wp
 simp only[execOp,resolve,invoke,builtin,Sem.run_bind,Sem.run_pure,Result.andThen_ok,Zg,Yq,Y7,hu,hv,hrun,Oper.upon_value]
 have hk:=jt (cs:=(news++arr.toList.drop (m*sz)).toArray) (w:=w) hR.ok hr hF
 have hall:∀e'∈cpL els ys,e'.length=sz:=λe' he'=>by
  grind
 have hrel:=tO (ob':=.row e sz (cpL els ys) (g&&gy) ζ) (cs:=(news++arr.toList.drop (m*sz)).toArray) hR hr hF ⟨b,cc,_,hr,gL _ hh,by simp_all,by simp_all,hmx,hall,by
  rw[ew]
  refine lO λj xd hj=>?_
  rw[Yl,d7 (gL _ hh),List.getElem?_toArray]
  rw[hcp,Zb] at hj
  have hfl:(ys.take m).flatten.length=m*sz:=by rw[eX (λe he=>hsz e (YG he)),Zd,Za hm1]
  by_cases hjn:j<m*sz
  .rw[Yt oaa] at hj
   obtain⟨u,u1,u2⟩:=n3 _ _ hj
   exact⟨u,by grind,cm (hk.heap _) (hk.H _) _ _ (mj hR.ok u2 (by simp))⟩
  rw[Ys oaa,hfl] at hj
  have hjd:els.flatten[j]?=ς xd:=by
   have e1:els.flatten=(els.take m).flatten++(els.drop m).flatten:=by rw[<-Zb,List.take_append_drop]
   have e2:(els.take m).flatten.length=m*sz:=by rw[eX (λe he=>hes e (YG he)),Zd,Za oaa]
   rw[e1,Ys oaa,e2];exact hj
  obtain⟨u,u1,u2⟩:=lc (ew.1 hrd) hjd
  rw[Yl,d7 hh] at u1
  refine⟨u,?_,cm (hk.heap _) (hk.H _) _ _ (mj hR.ok u2 (by simp_all))⟩
  rw[Ys oaa,n1,List.getElem?_drop,show m*sz+(j-m*sz)=j from by omega]
  simp_all,λ_=>hF,λh=>by cases h⟩
 exact⟨E,hrel.putAny hd _⟩
theorem cpT{enc:α->List D}{ob:Laa}{by_ o:Nat}{ys zs:List α}{gg:Bool}{c:C}[dB P t e sz by_](hzd:zs.map enc=zd)(henc:∀a,(enc a).length=sz)(hn:ys.length=n)(hs:Src ob c zd gy)(hd:nlt d N=ζ)(hx:opT sl x= .v (.c (.w o n)))(hy:opT sl y= .v (.c c))(ho:go ob o=ς (.row e sz (ys.map enc) g ζ))(hg:(g&&gy)=gg):
 AWO P N ⟨ς d,.call ⟨.builtin .copy,#[x,y],#[t,t]⟩,ty,ps,af,gd⟩ ⟨sl,ob,nx⟩ ⟨(d,.any)::sl,(o,.row e sz ((cpL ys zs).map enc) gg ζ)::ob,nx⟩:=by
 subst hzd;subst hg
 have:=QZ (P:=P) (N:=N) (st:=⟨sl,ob,nx⟩) (d:=d) (ty:=ty) (ps:=ps) (af:=af) (gd:=gd) (t:=t) (e:=e) (sz:=sz) (by_:=by_) (cO hd) hx hy ho hs (by simp_all) (B3 henc zs)
 rwa [KY] at this
def qO:List D->Bool
 |[]=>ζ
 | .l _::_=>η
 |_::xs=>qO xs
theorem yp{w:World}{F F':Nat->Prop}:∀{e:List D} {b k:Nat},qO e=ζ->rdL w F e b k->rdL w F' e b k
 |[],_,_,_,_=>by simp[rdL]
 | .i k' n::xs,b,k,h,hr=>by
  rw[rdL] at hr ⊢
  exact⟨by obtain⟨u,h1,h2⟩:=hr.1;exact⟨u,h1,by simpa [rdD] using h2⟩,yp (by simpa [qO] using h) hr.2⟩
 | .b n::xs,b,k,h,hr=>by
  rw[rdL] at hr ⊢
  exact⟨by obtain⟨u,h1,h2⟩:=hr.1;exact⟨u,h1,by simpa [rdD] using h2⟩,yp (by simpa [qO] using h) hr.2⟩
 | .str n::xs,b,k,h,hr=>by
  rw[rdL] at hr ⊢
  exact⟨by obtain⟨u,h1,h2⟩:=hr.1;exact⟨u,h1,by simpa [rdD] using h2⟩,yp (by simpa [qO] using h) hr.2⟩
 | .k _ _ _::xs,b,k,h,hr=>by
  rw[rdL] at hr ⊢
  exact⟨by obtain⟨u,h1,h2⟩:=hr.1;exact⟨u,h1,by simpa [rdD] using h2⟩,yp (by simpa [qO] using h) hr.2⟩
 | .l _::_,_,_,h,_=>by simp[qO] at h
theorem wj{w:World}{F F':Nat->Prop}:∀{es:Lad} {b k:Nat},(∀e∈es,qO e=ζ)->rdLL w F es b k->rdLL w F' es b k
 |[],_,_,_,_=>by simp[rdLL]
 |e::es,b,k,h,hr=>by
  rw[rdLL] at hr ⊢
  exact⟨yp (h e (by simp)) hr.1,wj (λx hx=>h x (by simp[hx])) hr.2⟩
theorem wL{enc:α->List D}{ob:Laa}{o t:Nat}{ys:List α}(ho:go ob o=ς (.row t sz (ys.map enc) g ζ):=by exact rfl)(hf:∀a,qO (enc a)=true:=by exact λ_=>rfl):
 cM N ⟨sl,ob,nx⟩ ⟨sl,(o,.row t sz (ys.map enc) ζ ζ)::ob,nx⟩:=by
 intro cx E a w hR
 refine⟨E,hR.ok,hR.dom,λl x hl=>?_,hR.sl,hR.dfr,hR.size,hR.td⟩
 by_cases hlo:o=l
 .subst hlo
  rw[b9] at hl;cases hl
  obtain⟨b,c,arr,h1,h2,h3,h4,h5,h6,h7,h8,h9⟩:=hR.obs _ _ ho
  exact⟨b,c,arr,h1,h2,h3,h4,h5,h6,wj (λe he=>by grind) h7,h8,λh=>by cases h⟩
 rw[bG _ _ hlo] at hl;exact hR.obs l x hl
end
def uL(k:IntKind)(x y:Int):Int:=k.wrap (BitVec.ofInt k.bits x&&& BitVec.ofInt k.bits y).toNat
def bOr(k:IntKind)(x y:Int):Int:=k.wrap (BitVec.ofInt k.bits x|||BitVec.ofInt k.bits y).toNat
def GX(k:IntKind)(x y:Int):Int:=k.wrap (BitVec.ofInt k.bits x^^^BitVec.ofInt k.bits y).toNat
def vW(k:IntKind)(x y:Int):Int:=k.wrap (BitVec.ofInt k.bits x&&& ~~~(BitVec.ofInt k.bits y)).toNat
def my(k:IntKind)(x y:Int):Int:=k.wrap (x*2^(min y.toNat k.bits))
def Ap(k:IntKind)(x y:Int):Int:=x.fdiv (2^(min y.toNat k.bits))
def Pk(op:BinOp)(k:IntKind)(a b:Int):Option Int:=
 match op with
 | .and=>ς (uL k a b)
 | .or=>ς (bOr k a b)
 | .xor=>ς (GX k a b)
 | .andNot=>ς (vW k a b)
 |_=>ξ
def Sa(op:BinOp)(k:IntKind)(a b:Int):Option Int:=
 match op with
 | .shl=>ς (my k a b)
 | .shr=>ς (Ap k a b)
 |_=>ξ
section
variable{P:Program}{N:Nat}{d:Tmp}{ty:TypeId}{ps:String}{af:Array Edge}{gd:Option (Nat×Bool)}{x y z:Operand}{sl:Lab}{ob:Laa}{nx:Nat}
theorem n_bit{op:BinOp}{k:IntKind}{a b:Int}(h:Pk op k a b=ς r):
 AWN P ⟨ς d,.binOp op t x y t',ty,ps,af,gd⟩ [(x,.v (.c (.d g (.i k a)))),(y,.v (.c (.d g' (.i k b))))] [] (.v (.c (.d η (.i k r)))) []:=
 cd λE ac w hn _=>by
  have h1:=gz (hn x _ (.head _))
  have h2:=gz (hn y _ (.tail _ (.head _)))
  cases op<;>simp only[Pk,Option.some.injEq,reduceCtorEq] at h<;>subst h<;>
   exact⟨_,by simp[execOp,h1,h2,eqGuard,binOp,Op.intBits];rfl,by simp[cvT,cvV,cvC,rdD,uL,bOr,GX,vW]⟩
theorem n_sh{op:BinOp}{k k':IntKind}{a b:Int}(h0:0<=b)(h:Sa op k a b=ς r):
 AWN P ⟨ς d,.binOp op t x y t',ty,ps,af,gd⟩ [(x,.v (.c (.d g (.i k a)))),(y,.v (.c (.d g' (.i k' b))))] [] (.v (.c (.d η (.i k r)))) []:=
 cd λE ac w hn _=>by
  have h1:=gz (hn x _ (.head _))
  have h2:=gz (hn y _ (.tail _ (.head _)))
  have h0':¬b<0:=by omega
  cases op<;>simp only[Sa,Option.some.injEq,reduceCtorEq] at h<;>subst h<;>
   exact⟨_,by simp[execOp,h1,h2,eqGuard,binOp,Op.shift,h0'];rfl,by rfl⟩
theorem ib{op:BinOp}{k:IntKind}{a b:Int}(hx:opT sl x= .v (.c (.d g (.i k a))))(hy:opT sl y= .v (.c (.d g' (.i k b))))(hN:nlt d N=ζ)(h:Pk op k a b=ς r):
 NS0 P N ⟨ς d,.binOp op t x y t',ty,ps,af,gd⟩ sl ob nx d (.v (.c (.d η (.i k r)))) ⟨d,[(x,.v (.c (.d g (.i k a)))),(y,.v (.c (.d g' (.i k b))))],[],.v (.c (.d η (.i k r))),[]⟩:=dh (st:=⟨sl,ob,nx⟩) (n_bit h) rfl hN ⟨hx,hy,θ⟩ trivial rfl
theorem ishT{op:BinOp}{k k':IntKind}{a b:Int}(h0:leB 0 b=ζ)(hx:opT sl x= .v (.c (.d g (.i k a))))(hy:opT sl y= .v (.c (.d g' (.i k' b))))(hN:nlt d N=ζ)(h:Sa op k a b=ς r):
 NS0 P N ⟨ς d,.binOp op t x y t',ty,ps,af,gd⟩ sl ob nx d (.v (.c (.d η (.i k r)))) ⟨d,[(x,.v (.c (.d g (.i k a)))),(y,.v (.c (.d g' (.i k' b))))],[],.v (.c (.d η (.i k r))),[]⟩:=dh (st:=⟨sl,ob,nx⟩) (n_sh (by simp_all) h) rfl hN ⟨hx,hy,θ⟩ trivial rfl
theorem ishL{op:BinOp}{k k':IntKind}{a:Int}(hx:opT sl x= .v (.c (.d g (.i k a))))(hy:opT sl y= .v (.c (.d g' (.i k' (b:Int)))))(hN:nlt d N=ζ)(h:Sa op k a b=ς r):
 NS0 P N ⟨ς d,.binOp op t x y t',ty,ps,af,gd⟩ sl ob nx d (.v (.c (.d η (.i k r)))) ⟨d,[(x,.v (.c (.d g (.i k a)))),(y,.v (.c (.d g' (.i k' (b:Int)))))],[],.v (.c (.d η (.i k r))),[]⟩:=dh (st:=⟨sl,ob,nx⟩) (n_sh oaa h) rfl hN ⟨hx,hy,θ⟩ trivial rfl
end
def E0(b c:Nat)(F:Nat->Prop):Env:={r:=λo=>if o=200 then ς (b,c) else ξ,F:=F,G:=λ_=>False}
def E1(b c:Nat)(F G:Nat->Prop):Env:={r:=λo=>if o=200 then ς (b,c) else ξ,F:=λx=>F x\/G x,G:=G}
def TV(E:Env)(w:World):List T->Lae->Prop
 |[],[]=>True
 |t::ts,u::us=>cvT E w t u/\TV E w ts us
 |_,_=>False
structure FnW(P:Program)(f:FuncId)(x:Ob)(args:List T)(y:Ob)(res:List RV):Prop where
 enters:∀(vs:Array Value) (w:World),(callFunc f vs).run P w= .ok (.enter f vs) w
 calls:∀(F:Nat->Prop) (w:World) (vals:Array Value) (b c:Nat),(∀b,F b->b<w.heap.size)->b<w.heap.size->TabsIn w->(∀k∈pA,k≠b)->cB (E0 b c F) w 200 x->TV (E0 b c F) w args vals.toList->
  Calls P f vals w λe w'=>∃v G bs,e= .returned v/\Da w w' (λk=>k=b)/\(∀k,G k->w.heap.size<=k/\k<w'.heap.size/\iV w' k)/\xL w' G w.heap.size res v bs/\(bs.map (·.1)).Nodup/\cB (E1 b c F G) w' 200 y
def C.free:C->Bool
 | .d _ _| .nil| .any| .fn _=>ζ
 |_=>η
def Ob.free:Ob->Bool
 | .var _ cs=>cs.all C.free
 | .row _ _ _ _ m=>m
 | .rown .. | .abs .. =>η
theorem Pr(hH:∀g b,E.H g b->E'.H g b)(hh:∀g b,E.H g b->w'.heap[b]?=w.heap[b]?):∀{c:C} {u:Value},c.free=ζ->cvC E w c u->cvC E' w' c u
 | .d g d,u,_,h=>cm (hh g) (hH g) d u h
 | .fn f,u,_,h=>h
 | .nil,u,_,h=>h
 | .any,u,_,_=>trivial
theorem EH{E E':Env}{w w':World}(hH:∀g b,E.H g b->E'.H g b)(hh:∀g b,E.H g b->w'.heap[b]?=w.heap[b]?):∀{cs:List C} {us:Lae},cs.all C.free=ζ->CV E w cs us->CV E' w' cs us
 |[],[],_,_=>trivial
 |c::cs,u::us,hf,h=>by
  simp only[Yy,hV] at hf
  exact⟨Pr hH hh hf.1 h.1,EH hH hh hf.2 h.2⟩
 |[],_::_,_,h=>h.elim
 |_::_,[],_,h=>h.elim
theorem xK{o o':Nat}(hf:x.free=ζ)(hr:∀b c,E.r o=ς (b,c)->E'.r o'=ς (b,c))(hH:∀g b,E.H g b->E'.H g b)(hh:∀g b,E.H g b->w'.heap[b]?=w.heap[b]?)(hb:∀b c,E.r o=ς (b,c)->w'.heap[b]?=w.heap[b]?)(hF:∀b c,E.r o=ς (b,c)->¬E.F b->¬E'.F b)(h:cB E w o x):cB E' w' o' x:=by
 cases x with
 |rown ty sz els g=>exact absurd hf Y6
 |abs l y=>exact absurd hf Y6
 |var ty cs=>
  obtain⟨b,c,arr,h1,h2,h3,h4⟩:=h
  exact⟨b,c,arr,hr b c h1,(hb b c h1).trans h2,EH hH hh hf h3,hF b c h1 h4⟩
 |row ty sz els g m=>
  obtain⟨b,c,arr,h1,h2,h3,h4,h5,h6,h7,h8,h9⟩:=h
  have hm:m=true:=hf
  subst hm
  exact⟨b,c,arr,hr b c h1,(hb b c h1).trans h2,h3,h4,h5,h6,cf (hh g) (hH g) (hb b c h1) _ _ h7,λ_=>hF b c h1 (h8 rfl),λh=>by cases h⟩
def C.loc:C->C
 | .d _ x=>.d η x
 |c=>c
def Ob.loc:Ob->Ob
 | .var ty cs=>.var ty (cs.map C.loc)
 | .row ty sz els _ m=>.row ty sz els η m
 | .rown ty sz els _=>.rown ty sz els η
 | .abs l y=>.abs l y
theorem TQ{cx:Cx}(ok:da cx E w){c:C}(h:cvC E w c u):cvC E w c.loc u:=by
 cases c with
 |d g x=>exact mj (g':=η) ok h (by simp)
 |_=>exact h
theorem OV{cx:Cx}{E:Env}{w:World}(ok:da cx E w):∀{cs:List C} {us:Lae},CV E w cs us->CV E w (cs.map C.loc) us
 |[],[],_=>trivial
 |c::cs,u::us,h=>⟨TQ ok h.1,OV ok h.2⟩
 |[],_::_,h=>h.elim
 |_::_,[],h=>h.elim
theorem Ei{cx:Cx}(ok:da cx E w){o:Nat}(hf:x.free=ζ)(h:cB E w o x):cB E w o x.loc:=by
 cases x with
 |rown ty sz els g=>exact absurd hf Y6
 |abs l y=>exact absurd hf Y6
 |var ty cs=>
  obtain⟨b,c,arr,h1,h2,h3,h4⟩:=h
  exact⟨b,c,arr,h1,h2,OV ok h3,h4⟩
 |row ty sz els g m=>
  obtain⟨b,c,arr,h1,h2,h3,h4,h5,h6,h7,h8,h9⟩:=h
  have hm:m=true:=hf
  subst hm
  refine⟨b,c,arr,h1,h2,h3,h4,h5,h6,?_,h8,λh=>by cases h⟩
  cases g with
  |false=>exact h7
  |true=>exact cf (λ_ _=>rfl) (λb hb=>ok.gf b hb) rfl _ _ h7
def tk:Nat->List T->Lab
 |_,[]=>[]
 |k,t::ts=>(k,t)::tk (k+1) ts
theorem Az{E:Env}{w:World}:∀{ts:List T} {us:Lae} (k0:Nat),TV E w ts us->us.length=ts.length/\∀k,(k0<=k/\k<k0+ts.length->∃u,us[k-k0]?=ς u/\cvT E w (gt (tk k0 ts) k) u)/\(¬(k0<=k/\k<k0+ts.length)->gt (tk k0 ts) k= .any)
 |[],[],k0,_=>⟨rfl,λk=>⟨λh=>by grind,λ_=>rfl⟩⟩
 |t::ts,u::us,k0,h=>by
  obtain⟨h1,h2⟩:=Az (k0+1) h.2
  refine⟨by simp[h1],λk=>⟨λhk=>?_,λhk=>?_⟩⟩
  .by_cases e:k0=k
   .subst e;exact⟨u,by simp,by rw[tk,cW];exact h.1⟩
   obtain⟨v,k1,k2⟩:=(h2 k).1 (by grind)
   refine⟨v,?_,by rw[tk,cy _ _ e];exact k2⟩
   grind
  simp at hk
  rw[tk,cy _ _ oaa]
  grind
 |[],_::_,_,h=>h.elim
 |_::_,[],_,h=>h.elim
theorem Hk{ob:Laa}{c:C}{r:RC}{ls:List Nat}(h:uO ob c=ς (r,ls)):∀l∈ls,∃ty sz els,go ob l=ς (.row ty sz els ζ ζ):=by
 cases c with
 |d g x=>cases x<;>(try cases g)<;>simp[uO] at h<;>obtain⟨rfl,rfl⟩:=h<;>simp
 |w o n=>
  simp only[uO] at h
  grind
 |nil=>simp[uO] at h;simp_all
 |_=>simp[uO] at h
theorem DJ{ob:Laa}:∀{cs:List C} {rs:List RC} {ls:List Nat},Ab ob cs=ς (rs,ls)->∀l∈ls,∃ty sz els,go ob l=ς (.row ty sz els ζ ζ)
 |[],rs,ls,h=>by simp[Ab] at h;simp_all
 |c::cs,rs,ls,h=>by
  simp only[Ab] at h
  split at h
  .rename_i r l rs' ls' h1 h2
   simp at h;obtain⟨rfl,rfl⟩:=h
   intro x hx
   rcases Ye.1 hx with hx|hx
   .exact Hk h1 x hx
   exact DJ h2 x hx
  cases h
theorem PX{ob:Laa}{v:V}{r:RV}{ls:List Nat}(h:Jz ob v=ς (r,ls)):∀l∈ls,∃ty sz els,go ob l=ς (.row ty sz els ζ ζ):=by
 cases v with
 |c c=>
  simp only[Jz] at h
  split at h
  .rename_i r l h1;simp at h;obtain⟨rfl,rfl⟩:=h;exact Hk h1
  cases h
 |agg cs=>
  simp only[Jz] at h
  split at h
  .rename_i r l h1;simp at h;obtain⟨rfl,rfl⟩:=h;exact DJ h1
  cases h
theorem DL{ob:Laa}:∀{cs:List V} {rs:List RV} {ls:List Nat},um ob cs=ς (rs,ls)->∀l∈ls,∃ty sz els,go ob l=ς (.row ty sz els ζ ζ)
 |[],rs,ls,h=>by simp[um] at h;simp_all
 |c::cs,rs,ls,h=>by
  simp only[um] at h
  split at h
  .rename_i r l rs' ls' h1 h2
   simp at h;obtain⟨rfl,rfl⟩:=h
   intro x hx
   rcases Ye.1 hx with hx|hx
   .exact PX h1 x hx
   exact DL h2 x hx
  cases h
theorem Ua{cx:Cx}(hR:Rel N cx E st a w){fn:Func}(h:Fin P fn.results.toList res st):
 ∃v bs,(results fn a.tmps).run P w= .ok v w/\xL w E.G cx.w0.heap.size res v bs/\(bs.map (·.1)).Nodup/\∀p∈bs,¬E.F p.1:=by
 obtain⟨vs,ls,h1,h2,h3⟩:=h
 obtain⟨us,k1,k2⟩:=uI hR h1
 obtain⟨bs,m1,m2,m3⟩:=BI hR h2 k2
 have hnd:(bs.map (·.1)).Nodup:=by
  have hnl:=jN h3
  refine YE.2 λi j hi hj hij he=>?_
  simp only[YA] at hi hj
  obtain⟨p,p1,p2⟩:=m3 i ls[i] (Yb oaa)
  obtain⟨q,q1,q2⟩:=m3 j ls[j] (Yb oaa)
  rw[Yb hi] at p1
  rw[Yb hj] at q1
  cases p1;cases q1
  simp only[List.getElem_map] at he
  rcases hbi:bs[i] with⟨b1,c1⟩
  rcases hbj:bs[j] with⟨b2,c2⟩
  rw[hbi,hbj] at he
  rw[hbi] at p2;rw[hbj] at q2
  have hb:b1=b2:=he
  subst hb
  exact YE.1 hnl i j oaa oaa hij (hR.ok.inj _ _ _ _ _ p2 q2)
 have hnF:∀p∈bs,¬E.F p.1:=by
  intro p hp
  obtain⟨i,hi,rfl⟩:=List.getElem_of_mem hp
  have hl:i<ls.length:=by omega
  obtain⟨q,q1,q2⟩:=m3 i ls[i] (Yb hl)
  rw[Yb hi] at q1;cases q1
  obtain⟨ty,sz,els,hg⟩:=DL h2 ls[i] (List.getElem_mem hl)
  obtain⟨b,c,arr,r1,r2,r3,r4,r5,r6,r7,r8,r9⟩:=hR.obs _ _ hg
  rw[q2] at r1
  rw[Option.some.inj r1]
  exact r8 rfl
 have hm:(fn.results.mapM (lR a.tmps)).run P w= .ok us.toArray w:=by
  rw[<-YQ (xs:=fn.results),Zn]
  simp only[Sem.run_map,k1]
  rfl
 have hres:results fn a.tmps=(fn.results.mapM (lR a.tmps))>>= λvs=>pure (if h:vs.size=1 then vs[0] else .tuple vs):=rfl
 have hlen:us.length=vs.length:=by
  have key:∀(vs:List V) (us:Lae),VV E w vs us->us.length=vs.length:=by
   intro vs
   induction vs with
   |nil=>intro us h;cases us with
    |nil=>rfl
    |cons _ _=>exact h.elim
   |cons v vs ih=>intro us h;cases us with
    |nil=>exact h.elim
    |cons u us=>simp[ih us h.2]
  exact key vs us k2
 have hlen2:us.length=res.length:=by
  have key:∀(rs:List RV) (us:Lae) (bs:Lac),Av w E.G cx.w0.heap.size rs us bs->us.length=rs.length:=by
   intro rs
   induction rs with
   |nil=>intro us bs h;cases us with
    |nil=>rfl
    |cons _ _=>exact h.elim
   |cons v vs ih=>intro us bs h;cases us with
    |nil=>exact h.elim
    |cons u us=>obtain⟨b1,b2,_,_,h⟩:=h;grind
  exact key res us bs m1
 match res,us,m1,hlen2 with
 |[],[],m1,_=>exact⟨.tuple #[],bs,by simp_all,⟨#[],rfl,m1⟩,hnd,hnF⟩
 |[r],[u],m1,_=>
  obtain⟨b1,b2,rfl,h4,h5⟩:=m1
  have:b2=[]:=h5
  subst this
  exact⟨u,b1++[],by simp_all,by simpa [xL] using h4,hnd,hnF⟩
 |r1::r2::rs,u1::u2::us,m1,_=>
  exact⟨.tuple (u1::u2::us).toArray,bs,by simp_all,⟨_,rfl,m1⟩,hnd,hnF⟩
theorem If{G G2:Nat->Prop}{base:Nat}(hG:∀b,G b->G2 b){r:RC}{bs:Lac}(h:rcR w G base r u bs)(hn:∀p∈bs,¬G2 p.1):rcR w G2 base r u bs:=by
 cases r with
 |d x=>exact⟨h.1,cm (λ_ _=>rfl) hG x u h.2⟩
 |own ty sz els n=>
  obtain⟨b,c,arr,h1,h2,h3,h4,h5,h6,h7,h8,h9,h10⟩:=h
  exact⟨b,c,arr,h1,h2,h3,h4,h5,h6,h7,cf (λ_ _=>rfl) hG rfl _ _ h8,hn (b,c) (by rw[h1];simp),h10⟩
 |nil=>exact h
theorem Ed{w:World}{G G2:Nat->Prop}{base:Nat}(hG:∀b,G b->G2 b):∀{rs:List RC} {us:Lae} {bs:Lac},Do w G base rs us bs->(∀p∈bs,¬G2 p.1)->Do w G2 base rs us bs
 |[],[],bs,h,_=>h
 |r::rs,u::us,bs,h,hn=>by
  obtain⟨b1,b2,rfl,h1,h2⟩:=h
  exact⟨b1,b2,rfl,If hG h1 (λp hp=>hn p (by simp[hp])),Ed hG h2 (λp hp=>hn p (by simp[hp]))⟩
 |[],_::_,_,h,_=>h.elim
 |_::_,[],_,h,_=>h.elim
theorem Il{G G2:Nat->Prop}{base:Nat}(hG:∀b,G b->G2 b){r:RV}{bs:Lac}(h:rvR w G base r u bs)(hn:∀p∈bs,¬G2 p.1):rvR w G2 base r u bs:=by
 cases r with
 |c r=>exact If hG h hn
 |agg rs=>obtain⟨arr,h1,h2⟩:=h;exact⟨arr,h1,Ed hG h2 hn⟩
theorem zW{w:World}{G G2:Nat->Prop}{base:Nat}(hG:∀b,G b->G2 b):∀{rs:List RV} {us:Lae} {bs:Lac},Av w G base rs us bs->(∀p∈bs,¬G2 p.1)->Av w G2 base rs us bs
 |[],[],bs,h,_=>h
 |r::rs,u::us,bs,h,hn=>by
  obtain⟨b1,b2,rfl,h1,h2⟩:=h
  exact⟨b1,b2,rfl,Il hG h1 (λp hp=>hn p (by simp[hp])),zW hG h2 (λp hp=>hn p (by simp[hp]))⟩
 |[],_::_,_,h,_=>h.elim
 |_::_,[],_,h,_=>h.elim
theorem N6{G G2:Nat->Prop}{base:Nat}(hG:∀b,G b->G2 b){rs:List RV}{bs:Lac}(h:xL w G base rs u bs)(hn:∀p∈bs,¬G2 p.1):xL w G2 base rs u bs:=by
 match rs,h with
 |[],h=>obtain⟨arr,h1,h2⟩:=h;exact⟨arr,h1,zW hG h2 hn⟩
 |[r],h=>exact Il hG h hn
 |_::_::_,h=>obtain⟨arr,h1,h2⟩:=h;exact⟨arr,h1,zW hG h2 hn⟩
def pL(N:Nat)(P:Program)(rs:List ResultVar)(res:List RV)(y:Ob):Exit->St->Prop
 | .ret,s| .normal,s=>∃s',cM N s s'/\Fin P rs res s'/\go s'.ob 200=ς y
 |_,_=>False
instance {N:Nat} {P:Program} {rs:List ResultVar} {res:List RV} {y:Ob}:Clo N (pL N P rs res y):=⟨λe s m hw h=>by
 cases e<;>simp only[pL] at h ⊢<;>first|exact h|(obtain⟨s',h1,h2⟩:=h;exact⟨s',aJ hw h1,h2⟩)⟩
theorem P4{fn:Func}{c:Code}{args:List T}{sl0:Lab}(hf:P.funcs[f]?=ς fn)(hb:fn.body=ς c:=by exact rfl)(hnm:(fn.name== "runtime.NumGoroutine")=false:=by kernel_rfl)(hN:fn.ntmps=N)(hrs:fn.results.toList=rs:=by exact rfl)(ha:Yk args.length N=true:=by exact rfl)(hfx:x.free=true:=by exact rfl)(hfy:y.free=true:=by exact rfl)(hs:tk 0 args=sl0:=by exact rfl)(h:AWC P N c ⟨sl0,[(200,x)],210⟩ (pL N P rs res y)):FnW P f x args y res:=by
 subst hs
 refine⟨λvs w=>by simp[callFunc,hf,hb];simp_all,λF w vals b cc hF hbl hT hTb hx hA=>?_⟩
 subst hrs
 refine calls_of_wp hf hb ?_
 obtain⟨h1,h2⟩:=Az 0 hA
 have hle:args.length<=N:=YJ ha
 have hsz:vals.size=args.length:=by simpa using h1
 have hrv:rsv 200=true:=rfl
 have hrp:rsp 200=true:=rfl
 have hbF:¬F b:=by
  cases x with
  |rown ty sz els g=>exact absurd hfx Y6
  |abs l y=>exact absurd hfx Y6
  |var ty cs=>obtain⟨b',c',arr,h1,h2,h3,h4⟩:=hx;cases h1;exact h4
  |row ty sz els g m=>
   obtain⟨b',c',arr,h1,h2,h3,h4,h5,h6,h7,h8,h9⟩:=hx
   cases h1
   have hm:m=true:=hfx
   subst hm
   exact h8 rfl
 have hr0:∀o p,(E0 b cc F).r o=ς p->o=200/\p=(b,cc):=λo p h=>by
  simp only[E0] at h
  simp_all
 have hR:Rel N ⟨w,λk=>k=b,(E0 b cc F).r,F,λ_=>False,⟨hT,hTb⟩,λ_=>False⟩ (E0 b cc F) ⟨tk 0 args,[(200,x)],210⟩ {tmps:=vals++Ym (fn.ntmps-vals.size) undef,defers:=[]} w:=by
  refine⟨⟨hF,λ_ h=>h.elim,λ_ h=>h.elim,λo k k' h=>?_,λo o' k k' k'' h h'=>?_,rfl,rfl,rfl,Yj _,λ_ _ _=>rfl,λ_ _ _ h=>h,λ_ h=>.inl h,λb h h'=>absurd (hF b h) (by grind),⟨λ_ _ h=>h.elim,λ_ _ _ h=>h.elim,λ_ h=>h.elim,λ_ h=>h.elim,λ_ h=>h.elim⟩⟩,λo p h=>?_,λo ob h=>?_,λk=>?_,rfl,by simp;omega,λ_ _ h=>h.elim⟩
  .grind
  .grind
  .grind
  .by_cases e:200=o
   .subst e;rw[b9] at h;grind
   rw[bG _ _ e] at h;cases h
  by_cases hk:k<args.length
  .obtain⟨u,h3,h4⟩:=(h2 k).1 ⟨Yu _,by omega⟩
   have:(vals++Ym (fn.ntmps-vals.size) undef).getD k undef=u:=by
    have h5:vals[k]?=ς u:=by simpa using h3
    have h6:(vals++Ym (fn.ntmps-vals.size) undef)[k]?=ς u:=by rw[Zf oaa];exact h5
    simp[h6]
   grind
  have:=(h2 k).2 oaa
  show cvT _ w (gt (tk 0 args) k) _
  rw[this];trivial
 refine wp_mono (h _ _ _ w hR) ?_
 rintro e a' w' ⟨E',s',hR',hq⟩
 have fin:(∃s'',cM N s' s''/\Fin P fn.results.toList res s''/\go s''.ob 200=ς y)->
  a'.defers=[]/\∃v,(results fn a'.tmps).run P w'= .ok v w'/\∃v' G bs,Ending.returned v= .returned v'/\Da w w' (λk=>k=b)/\(∀k,G k->w.heap.size<=k/\k<w'.heap.size/\iV w' k)/\xL w' G w.heap.size res v' bs/\(bs.map (·.1)).Nodup/\cB (E1 b cc F G) w' 200 y:=by
  rintro⟨s'',hw,hfin,hgo⟩
  obtain⟨E'',hR''⟩:=hw _ _ _ _ hR'
  obtain⟨v,bs,k1,k2,k3,k4⟩:=Ua hR'' hfin
  have ok:=hR''.ok
  refine⟨hR''.dfr,v,k1,v,λk=>E''.F k/\w.heap.size<=k,bs,rfl,⟨ok.os,ok.tape,ok.output,ok.size,ok.block⟩,λk hk=>⟨hk.2,ok.fb k hk.1,ok.gc k hk.1 hk.2⟩,N6 (λk hk=>⟨ok.gf k hk,(ok.gn k hk).resolve_right id⟩) k2 (λp hp hg=>k4 p hp hg.1),k3,?_⟩
  refine xK hfy (λk c hk=>?_) (λg k hk=>?_) (λ_ _ _=>rfl) (λ_ _ _=>rfl) (λk c hk hn hk'=>?_) (hR''.obs _ _ hgo)
  .have:=ok.pin 200 _ hrp hk
   exact this
  .cases g with
   |false=>
    rcases ok.ff k hk with h|h
    .exact .inl h
    exact .inr ⟨hk,h⟩
   |true=>exact⟨ok.gf k hk,(ok.gn k hk).resolve_right id⟩
  rcases hk' with h|h
  .have:=ok.pin 200 _ hrp hk
   grind
  grind
 cases e with
 |normal=>exact fin hq
 |ret=>exact fin hq
 |_=>exact hq.elim
def wU(nob:Laa)(o:Nat):C->Option (C×Lac)
 | .p l k=>bif f4 l o then ς (.p 200 k,[]) else ξ
 | .w l n=>bif f4 l o then ς (.w 200 n,[]) else match ye nob (.w l n) with
  |some (x,e)=>ς (.d η x,e)
  |none=>ξ
 | .nil=>ς (.nil,[])
 |c=>match ye nob c with
  |some (x,e)=>ς (.d η x,e)
  |none=>ξ
def HP(nob:Laa)(o:Nat):List C->Option (List C×Lac)
 |[]=>ς ([],[])
 |c::cs=>match wU nob o c,HP nob o cs with
  |some (x,e),ς (xs,e')=>ς (x::xs,e++e')
  |_,_=>ξ
def WC(nob:Laa)(o:Nat):T->Option (T×Lac)
 | .v (.c c)=>match wU nob o c with
  |some (x,e)=>ς (.v (.c x),e)
  |none=>ξ
 | .v (.agg cs)=>match HP nob o cs with
  |some (x,e)=>ς (.v (.agg x),e)
  |none=>ξ
 |_=>ξ
def xc(nob:Laa)(o:Nat):List T->Option (List T×Lac)
 |[]=>ς ([],[])
 |c::cs=>match WC nob o c,xc nob o cs with
  |some (x,e),ς (xs,e')=>ς (x::xs,e++e')
  |_,_=>ξ
section
variable{cx:Cx}{E:Env}{w:World}{nob:Laa}{o b c0:Nat}(ok:da cx E w)(hob:∀l x,go nob l=ς x->cB E w l x)(hr:E.r o=ς (b,c0))
include ok hob hr
theorem LC{c:C}{x:C}{e:Lac}(h:wU nob o c=ς (x,e))(he:Eqs e)(hc:cvC E w c u):cvC (E0 b c0 (lk E nob)) w x u:=by
 have gen:∀{c x e},(match ye nob c with|some (x,e)=>ς (C.d η x,e)|none=>ξ)=ς (x,e)->Eqs e->cvC E w c u->cvC (E0 b c0 (lk E nob)) w x u:=by
  intro c x e h he hc
  split at h
  .rename_i y e' h1
   simp at h;obtain⟨rfl,rfl⟩:=h
   exact AC ok hob h1 he hc
  cases h
 cases c with
 |p l k=>
  simp only[wU] at h
  cases hb:f4 l o with
  |false=>simp_all
  |true=>
   rw[hb] at h;simp at h;obtain⟨rfl,rfl⟩:=h
   have:=Yf hb;subst this
   obtain⟨b',c',h1,h2⟩:=hc
   rw[hr] at h1;cases h1
   exact⟨b,c0,by simp[E0],h2⟩
 |w l n=>
  simp only[wU] at h
  cases hb:f4 l o with
  |false=>grind
  |true=>
   rw[hb] at h;simp at h;obtain⟨rfl,rfl⟩:=h
   have:=Yf hb;subst this
   obtain⟨b',c',h1,h2⟩:=hc
   rw[hr] at h1;cases h1
   exact⟨b,c0,by simp[E0],h2⟩
 |nil=>simp[wU] at h;obtain⟨rfl,rfl⟩:=h;exact hc
 |d g y=>exact gen (by simpa only[wU] using h) he hc
 |s o sz off len=>exact gen (by simpa only[wU] using h) he hc
 |e o sz i j=>exact gen (by simpa only[wU] using h) he hc
 |q g x j=>exact gen (by simpa only[wU] using h) he hc
 |fn f=>exact gen (by simpa only[wU] using h) he hc
 |any=>exact gen (by simpa only[wU] using h) he hc
 |r l x=>exact gen (by simpa only[wU] using h) he hc
 |z x=>exact gen (by simpa only[wU] using h) he hc
 |zq x j=>exact gen (by simpa only[wU] using h) he hc
 |wn l n=>exact gen (by simpa only[wU] using h) he hc
theorem HQ:∀{cs xs:List C} {e:Lac} {us:Lae},HP nob o cs=ς (xs,e)->Eqs e->CV E w cs us->CV (E0 b c0 (lk E nob)) w xs us
 |[],xs,e,us,h,he,hc=>by simp[HP] at h;obtain⟨rfl,rfl⟩:=h;cases us with
  |nil=>trivial
  |cons _ _=>exact hc.elim
 |c::cs,xs,e,us,h,he,hc=>by
  simp only[HP] at h
  split at h
  .rename_i x e1 xs' e2 h1 h2
   simp at h;obtain⟨rfl,rfl⟩:=h
   obtain⟨g1,g2⟩:=dO he
   cases us with
   |nil=>exact hc.elim
   |cons u us=>exact⟨LC ok hob hr h1 g1 hc.1,HQ h2 g2 hc.2⟩
  cases h
theorem Uk{t t':T}{e:Lac}(h:WC nob o t=ς (t',e))(he:Eqs e)(hc:cvT E w t u):cvT (E0 b c0 (lk E nob)) w t' u:=by
 unfold WC at h
 split at h
 .split at h
  .rename_i c x e' h1;simp at h;obtain⟨rfl,rfl⟩:=h;exact LC ok hob hr h1 he hc
  cases h
 .split at h
  .rename_i cs x e' h1;simp at h;obtain⟨rfl,rfl⟩:=h
   obtain⟨arr,hu,hc⟩:=hc
   exact⟨arr,hu,HQ ok hob hr h1 he hc⟩
  cases h
 cases h
theorem B5{a:Act}:∀{ts ts':List T} {e:Lac} {args:List Operand},xc nob o ts=ς (ts',e)->Eqs e->ts.length=args.length->(∀x t,(x,t)∈args.zip ts->cvT E w t (a.eval x))->TV (E0 b c0 (lk E nob)) w ts' (args.map a.eval)
 |[],ts',e,args,h,he,hl,hn=>by
  simp[xc] at h;obtain⟨rfl,rfl⟩:=h
  cases args with
  |nil=>trivial
  |cons _ _=>simp at hl
 |t::ts,ts',e,args,h,he,hl,hn=>by
  simp only[xc] at h
  split at h
  .rename_i x e1 xs' e2 h1 h2
   simp at h;obtain⟨rfl,rfl⟩:=h
   obtain⟨g1,g2⟩:=dO he
   cases args with
   |nil=>simp at hl
   |cons y args=>exact⟨Uk ok hob hr h1 g1 (hn y t (by simp)),B5 h2 g2 (by simp_all) (λx t hm=>hn x t (by simp[hm]))⟩
  cases h
end
theorem Uy{d:Tmp}{ob:Laa}{o:Nat}{x0:Ob}{eqs:Lac}(hF:FnW P f x0.loc ts' y res)(ht:pj sl args=ς ts)(ho:go ob o=ς x0)(hfx:x0.free=ζ)(hfy:y.free=ζ)(ha:xc [] o ts=ς (ts',eqs))(he:Eqs eqs)(hi:xF nx res=ς (out,nw,n))(hw:As nx nw n=ζ)(hN:nlt d N=ζ):
 AWO P N ⟨ς d,.call ⟨.value (.func f),args.toArray,tys⟩,ty,ps,af,gd⟩ ⟨sl,ob,nx⟩ ⟨(d,out)::sl,nw++(o,y)::ob,n⟩:=by
 intro cx E a w hR
 obtain⟨t1,t2⟩:=qS ht
 obtain⟨nob,hnob⟩:∃nob:Laa,nob=[]:=⟨_,rfl⟩
 rw[<-hnob] at ha
 have hob:∀l x,go nob l=ς x->cB E w l x:=λl x h=>by subst hnob;cases h
 have hx0:=hR.obs o x0 ho
 obtain⟨b,c0,hr,hbF⟩:∃b c0,E.r o=ς (b,c0)/\¬E.F b:=by
  cases x0 with
  |rown ty sz els g=>exact absurd hfx Y6
  |abs l y=>exact absurd hfx Y6
  |var t cs=>obtain⟨b,c,arr,h1,h2,h3,h4⟩:=hx0;simp_all
  |row t sz els g m=>
   obtain⟨b,c,arr,h1,h2,h3,h4,h5,h6,h7,h8,h9⟩:=hx0
   have hm:m=true:=hfx
   simp_all
 have hnl:∀l x,go nob l=ς x->l≠o:=λl x h=>by subst hnob;cases h
 have hbC:¬lk E nob b:=by
  rintro(h|⟨l,x,c,h1,h2⟩)
  .exact hbF h
  exact hnl l x h1 (hR.ok.inj _ _ _ _ _ h2 hr)
 have hFb:∀b,lk E nob b->b<w.heap.size:=by
  rintro b (h|⟨l,x,c,h1,h2⟩)
  .exact hR.ok.fb b h
  exact(hR.ok.rb l b c h2).1
 have hbs0:=(hR.ok.rb o b c0 hr).1
 have hA:=B5 (a:=a) hR.ok hob hr ha he t1 (λx t hm=>by have:=hR.op x;rwa [Lk.mem t2 x t hm] at this)
 have hX:cB (E0 b c0 (lk E nob)) w 200 x0.loc:=by
  have hl:=Ei hR.ok hfx hx0
  have hfl:x0.loc.free=true:=by
   cases x0 with
   |rown ty sz els g=>exact absurd hfx Y6
   |abs l y=>exact absurd hfx Y6
   |var t cs=>
    simp only[Ob.loc,Ob.free,List.all_map] at hfx ⊢
    refine Yi.2 λc hc=>?_
    have:=Yi.1 hfx c hc
    cases c<;>simp_all [C.loc,C.free]
   |row t sz els g m=>exact hfx
  have hnoG:∀E2:Env,(∀k,E.F k->E2.F k)->E2.r 200=ς (b,c0)->¬E2.F b->cB E2 w 200 x0.loc:=by
   intro E2 h1 h2 h3
   cases x0 with
   |rown ty sz els g=>exact absurd hfx Y6
   |abs l y=>exact absurd hfx Y6
   |var t cs=>
    obtain⟨b',c',arr,k1,k2,k3,k4⟩:=hl
    rw[hr] at k1;cases k1
    refine⟨b,c0,arr,h2,k2,?_,h3⟩
    have key:∀(cs:List C) (us:Lae),cs.all C.free=ζ->CV E w (cs.map C.loc) us->CV E2 w (cs.map C.loc) us:=by
     intro cs
     induction cs with
     |nil=>
      intro us _ h
      cases us with
      |nil=>trivial
      |cons _ _=>exact h.elim
     |cons c cs ih=>
      intro us hf h
      simp only[Yy,hV] at hf
      cases us with
      |nil=>exact h.elim
      |cons u us=>
       refine⟨?_,ih us hf.2 h.2⟩
       have h5:=h.1
       cases c with
       |d g y=>exact cm (λ_ _=>rfl) h1 _ _ h5
       |nil=>exact h5
       |fn f=>exact h5
       |any=>trivial
       |_=>simp[C.free] at hf
    exact key cs _ hfx k3
   |row t sz els g m=>
    obtain⟨b',c',arr,k1,k2,k3,k4,k5,k6,k7,k8,k9⟩:=hl
    rw[hr] at k1;cases k1
    have hm:m=true:=hfx
    subst hm
    exact⟨b,c0,arr,h2,k2,k3,k4,k5,k6,cf (λ_ _=>rfl) h1 rfl _ _ k7,λ_=>h3,λh=>by cases h⟩
  exact hnoG _ (λk hk=>.inl hk) (by simp[E0]) hbC
 have hc:=hF.calls (lk E nob) w (args.map a.eval).toArray b c0 hFb hbs0 hR.ok.tabs (hR.ok.ntab hr) hX oaa
 have hent:=hF.enters (args.map a.eval).toArray w
 unfold Oper.wp
 have hrun:(execOp a.eval ⟨ς d,.call ⟨.value (.func f),args.toArray,tys⟩,ty,ps,af,gd⟩).run P w= .ok (.enter f (args.map a.eval).toArray) w:=by
  simp only[execOp,resolve,Act.eval,Deferred.ofValue,Sem.run_bind,Sem.run_pure,Result.andThen_ok,invoke]
  simpa using hent
 rw[hrun,Oper.upon_enter]
 refine hc.mono ?_
 rintro e w' ⟨v,G,bs,rfl,hpast,hG2,hres,hnd,hY⟩
 have hdom:∀l p,E.r l=ς p->l<nx:=hR.dom
 have hbs:=F6 hres
 have hnw:=Nw.mem (AN hw)
 have hlab:∀l,nx<=l->l<nx+bs.length->E.r l=ξ/\rsv l=false:=by
  have himp:=wm (E:=⟨λo=>bs[o-nx]?,G,G,λ_ _=>False,λ_=>False,λ_=>False⟩) (λ_ h=>h) (λb _ h=>h) hi hres (λi p hi=>by simp_all)
  intro l h1 h2
  obtain⟨x,hx⟩:=himp.2.2.2 l h1 (by rw[himp.2.1];exact h2)
  have h3:=hnw.2 l x hx
  refine⟨?_,h3.2.2⟩
  cases hq:E.r l with
  |none=>rfl
  |some p=>grind
 let E':Env:=⟨λl=>if nx<=l/\l<nx+bs.length then bs[l-nx]? else E.r l,λk=>E.F k\/G k,λk=>E.G k\/G k,E.T,E.Z,E.n⟩
 have hsz:=hpast.size
 have hws:=hR.ok.size
 have hold:∀l p,E.r l=ς p->E'.r l=ς p:=λl p h=>by
  grind
 have hnew:∀l b c,E'.r l=ς (b,c)->(nx<=l/\l<nx+bs.length/\bs[l-nx]?=ς (b,c))\/(E.r l=ς (b,c)):=by
  intro l b c h
  have h:(if nx<=l/\l<nx+bs.length then bs[l-nx]? else E.r l)=ς (b,c):=h
  split at h
  .simp_all
  exact .inr h
 have hheap:∀k,k<w.heap.size->k≠b->w'.heap[k]?=w.heap[k]?:=λk hk hne=>hpast.block k hk hne
 have hHb:∀g k,E.H g k->k≠b/\k<w.heap.size:=λg k hk=>⟨λe=>by subst e;cases g;exact hbF hk;exact hbF (hR.ok.gf _ hk),hR.ok.hb hk⟩
 have hk:jV E w E' w':=⟨hold,λg k h=>by cases g<;>exact .inl h,λg k h=>hheap k (hHb g k h).2 (hHb g k h).1,λl k h=>⟨h,hheap k (hR.ok.sf.tb l k h).1.1 (λe=>by subst e;exact(hR.ok.sf.tb l k h).2.2.1 o c0 hr)⟩,λk h=>⟨h,.of_eq (hheap k (hR.ok.sf.zb k h).1.2.1 (λe=>by subst e;exact(hR.ok.sf.zb k h).2.2.1 o c0 hr))⟩,rfl⟩
 have ok':da cx E' w':=by
  refine⟨λk h=>?_,λk h=>?_,λk h=>?_,λl k c h=>?_,λl l' k c c' h h'=>?_,by rw[hpast.os];exact hR.ok.os,by rw[hpast.tape];exact hR.ok.tape,by rw[hpast.output];exact hR.ok.output,by omega,λk h hW=>?_,λl p hv h=>?_,λk h=>?_,
   λk h h'=>h.elim (λh=>(hR.ok.gc k h h').of_eq (hheap k (hHb η k h).2 (hHb η k h).1)) (λh=>(hG2 k h).2.2),
   hR.ok.sf.turn hr rfl rfl (λk h=>h.elim .inl (λh=>.inr (hG2 k h).1)) (λl k c h=>by
    grind) hsz hheap⟩
  .rcases h with h|h
   .have:=hR.ok.fb k h;omega
   simp_all
  .rcases h with h|h
   .exact .inl (hR.ok.gf k h)
   grind
  .rcases h with h|h
   .exact hR.ok.gn k h
   grind
  .rcases hnew l k c h with⟨_,_,h⟩|h
   .grind
   have:=hR.ok.rb l k c h;grind
  .rcases hnew l k c h with⟨h1,h2,h3⟩|h3<;>rcases hnew l' k c' h' with⟨k1,k2,k3⟩|k3
   .have hi:l-nx<bs.length:=by omega
    have hj:l'-nx<bs.length:=by omega
    rcases Zm (l-nx) (l'-nx) with hlt|heq|hlt
    .exfalso
     have:=YE.1 hnd (l-nx) (l'-nx) (by simp_all) (by simp_all) hlt
     simp_all
    .omega
    exfalso
    have:=YE.1 hnd (l'-nx) (l-nx) (by simp_all) (by simp_all) hlt
    simp_all
   .have h5:=hbs _ (Yd h3);have h6:=hR.ok.rb l' k c' k3;omega
   .have h5:=hbs _ (Yd k3);have h6:=hR.ok.rb l k c h3;omega
   exact hR.ok.inj l l' k c c' h3 k3
  .have hkb:k≠b:=λe=>by
    subst e
    rcases(hR.ok.rb o k c0 hr).2 with h'|h'
    .omega
    simp_all
   rw[hheap k oaa hkb];exact hR.ok.block k h hW
  .rcases hnew l p.1 p.2 h with⟨h1,h2,_⟩|h
   .rw[pk (hlab l h1 h2).2] at hv;cases hv
   exact hR.ok.pin l p hv h
  rcases h with h|h
  .exact hR.ok.ff k h
  grind
 have himp:=wm (E:=E') (G:=G) (base:=w.heap.size) (λb h=>.inr h) (λb hb hng hF=>by
  rcases hF with h|h
  .have:=hR.ok.fb b h;omega
  simp_all) hi hres (λi p hi=>by
   have:i<bs.length:=(Yc.1 hi).1
   show(if nx<=nx+i/\nx+i<nx+bs.length then bs[nx+i-nx]? else E.r (nx+i))=ς p
   simp_all)
 refine⟨E',ok',λl p h=>?_,λl x hl=>?_,λk=>?_,hR.dfr,by simpa [Act.put] using hR.size,λl k h=>Yr (hR.td l k h) hnw.1⟩
 .rcases hnew l p.1 p.2 h with⟨h1,h2,_⟩|h
  .obtain⟨x,hx⟩:=himp.2.2.2 l h1 (by rw[himp.2.1];exact h2);grind
  grind
 .rcases zE hl with h|h
  .exact(himp.2.2.1 l x h).1
  by_cases hlo:o=l
  .subst hlo
   rw[b9] at h;cases h
   refine xK hfy (λk c h=>?_) (λg k h=>?_) (λ_ _ _=>rfl) (λ_ _ _=>rfl) (λk c h hn hh=>?_) hY
   .simp[E1] at h;grind
   .cases g with
    |false=>
     rcases h with h|h
     .rcases h with h|⟨l,x,c,h1,h2⟩
      .exact .inl h
      subst hnob;cases h1
     exact .inr h
    |true=>exact .inr h
   simp[E1] at h;grind
  rw[bG _ _ hlo] at h
  exact f8 hk (λk c h'=>hheap k (hR.ok.rb _ _ _ h').1 (λe=>hlo (by subst e;exact hR.ok.inj _ _ _ _ _ hr h'))) (λk c h' hn hh=>by
   rcases hh with hh|hh
   .exact hn hh
   have:=hG2 k hh;have:=(hR.ok.rb _ _ _ h').1;omega) (hR.obs l x h)
 rw[gu (by rw[hR.size];exact cO hN)]
 by_cases hdk:d=k
 .subst hdk;rw[cW,if_pos rfl];exact himp.1
 rw[cy _ _ hdk,if_neg hdk];exact jM hk (hR.sl k)
theorem cw{d:Tmp}{ob:Laa}{o:Nat}{x0 x1:Ob}{eqs:Lac}(hF:FnW P f x1 ts' y res)(ht:pj sl args=ς ts:=by exact rfl)(ho:go ob o=ς x0:=by exact rfl)(hl:x0.loc=x1:=by exact rfl)(hfx:x0.free=true:=by exact rfl)(hfy:y.free=true:=by exact rfl)(ha:xc [] o ts=ς (ts',eqs):=by exact rfl)(he:Eqs eqs:=by repeat (first|exact θ|refine⟨by first|rfl|exact lm _|simp,?_⟩))(hi:xF nx res=ς (out,nw,n):=by exact rfl)(hw:As nx nw n=true:=by exact rfl)(hN:nlt d N=true:=by exact rfl)(hob:apO nw ((o,y)::ob)=ς ob':=by exact rfl):
 AWO P N ⟨ς d,.call ⟨.value (.func f),args.toArray,tys⟩,ty,ps,af,gd⟩ ⟨sl,ob,nx⟩ ⟨(d,out)::sl,ob',n⟩:=by
 subst hl
 rw[rL hob]
 exact Uy hF ht ho hfx hfy ha he hi hw hN
theorem p4{res':List RV}{vs:List V}{ls:List Nat}{y':Ob}(h:ki P s rs vs:=by repeat' (first|exact .nil|apply ki.cons|exact .tmp rfl|exact .cell rfl rfl rfl|exact .cell1 rfl rfl))(he:um s.ob vs=ς (res',ls):=by exact rfl)(hn:lM ls=true:=by exact rfl)(hr:res'=res:=by first|rfl|simp)(hy:go s.ob 200=ς y':=by exact rfl)(hyy:y'=y:=by first|rfl|simp):pL N P rs res y .ret s:=by
 subst hr;subst hyy;exact⟨s,kU s,⟨vs,ls,h,he,hn⟩,hy⟩
theorem PY{res':List RV}{vs:List V}{ls:List Nat}{y':Ob}(h:ki P s rs vs:=by repeat' (first|exact .nil|apply ki.cons|exact .tmp rfl|exact .cell rfl rfl rfl|exact .cell1 rfl rfl))(he:um s.ob vs=ς (res',ls):=by exact rfl)(hn:lM ls=true:=by exact rfl)(hr:res'=res:=by first|rfl|simp)(hy:go s.ob 200=ς y':=by exact rfl)(hyy:y'=y:=by first|rfl|simp):pL N P rs res y .normal s:=by
 subst hr;subst hyy;exact⟨s,kU s,⟨vs,ls,h,he,hn⟩,hy⟩
structure FnN(P:Program)(f:FuncId)(args:List AV)(ty:TypeId)(xs:List D):Prop where
 enters:∀(vs:Array Value) (w:World),(callFunc f vs).run P w= .ok (.enter f vs) w
 calls:∀(F:Nat->Prop) (w:World) (vals:Array Value),(∀b,F b->b<w.heap.size)->TabsIn w->AR w F args vals.toList->
  Calls P f vals w λe w'=>∃(b:Nat) (arr:Array Value) (G:Nat->Prop),e= .returned (.pointer (ς ⟨b,0,ξ⟩))/\Da w w' (λ_=>False)/\(∀k,G k->w.heap.size<=k/\k<w'.heap.size/\iV w' k)/\w.heap.size<=b/\b<w'.heap.size/\¬G b/\w'.heap[b]?=ς (.cells arr ty (0,0))/\DV w' (λk=>F k\/G k) xs arr.toList
def Hb:C->Option D
 | .d _ x=>ς x
 | .nil=>ς (.l [])
 |_=>ξ
def xz:List C->Option (List D)
 |[]=>ς []
 |c::cs=>match Hb c,xz cs with
  |some x,ς xs=>ς (x::xs)
  |_,_=>ξ
theorem Pz{cx:Cx}(ok:da cx E w){c:C}{x:D}(h:Hb c=ς x)(hc:cvC E w c u):rdD w E.F x u:=by
 cases c with
 |d g y=>simp[Hb] at h;subst h;exact mj (g':=η) ok hc (by simp)
 |nil=>
  simp[Hb] at h;subst h
  have hu:u= .slice ξ 0 0:=hc
  subst hu
  rw[rdD];simp_all
 |_=>simp[Hb] at h
theorem DG{cx:Cx}{E:Env}{w:World}(ok:da cx E w):∀{cs:List C} {xs:List D} {us:Lae},xz cs=ς xs->CV E w cs us->DV w E.F xs us
 |[],xs,[],h,_=>by simp[xz] at h;subst h;trivial
 |[],_,_::_,_,hc=>hc.elim
 |c::cs,xs,[],h,hc=>hc.elim
 |c::cs,xs,u::us,h,hc=>by
  simp only[xz] at h
  split at h
  .rename_i x xs' h1 h2
   simp at h;subst h
   exact⟨Pz ok h1 hc.1,DG ok h2 hc.2⟩
  cases h
theorem EK{w w':World}{F F':Nat->Prop}(hw:∀b,F b->w'.heap[b]?=w.heap[b]?)(hF:∀b,F b->F' b):∀{xs:List D} {us:Lae},DV w F xs us->DV w' F' xs us
 |[],[],_=>trivial
 |x::xs,u::us,h=>⟨cm hw hF x u h.1,EK hw hF h.2⟩
 |[],_::_,h=>h.elim
 |_::_,[],h=>h.elim
def KM(N:Nat)(rs:List ResultVar)(ty:TypeId)(xs:List D):Exit->St->Prop
 | .ret,s| .normal,s=>∃s' k o cs,cM N s s'/\rs=[.tmp k]/\gt s'.sl k= .v (.c (.p o 0))/\go s'.ob o=ς (.var ty cs)/\xz cs=ς xs/\rsv o=η
 |_,_=>False
instance {N:Nat} {rs:List ResultVar} {ty:TypeId} {xs:List D}:Clo N (KM N rs ty xs):=⟨λe s m hw h=>by
 cases e<;>simp only[KM] at h ⊢<;>first|exact h|(obtain⟨s',k,o,cs,h1,h2⟩:=h;exact⟨s',k,o,cs,aJ hw h1,h2⟩)⟩
theorem PZ{xs xs':List D}{o:Nat}(h1:rs=[.tmp k]:=by exact rfl)(h2:gt s.sl k= .v (.c (.p o 0)):=by exact rfl)(h3:go s.ob o=ς (.var ty cs):=by exact rfl)(h4:xz cs=ς xs':=by exact rfl)(h5:rsv o=false:=by exact rfl)(h6:xs'=xs:=by exact rfl):KM N rs ty xs .ret s:=by
 subst h6;exact⟨s,k,o,cs,kU s,h1,h2,h3,h4,h5⟩
theorem Ws{fn:Func}{c:Code}{args:List AV}{xs:List D}{sl0:Lab}(hf:P.funcs[f]?=ς fn)(hb:fn.body=ς c:=by exact rfl)(hnm:(fn.name== "runtime.NumGoroutine")=false:=by kernel_rfl)(hN:fn.ntmps=N)(hrs:fn.results.toList=rs:=by exact rfl)(ha:Yk args.length N=true:=by exact rfl)(hs:GW 0 args=ς sl0:=by exact rfl)(h:AWC P N c ⟨sl0,[],0⟩ (KM N rs ty xs)):FnN P f args ty xs:=by
 rw[EU hs] at h
 refine⟨λvs w=>by simp[callFunc,hf,hb];simp_all,λF w vals hF hT hA=>?_⟩
 subst hrs
 refine calls_of_wp hf hb ?_
 let E:Env:={r:=λ_=>ξ,F:=F,G:=λ_=>False}
 obtain⟨h1,h2⟩:=Bi (E:=E) (F:=F) rfl 0 hA
 have hle:args.length<=N:=YJ ha
 have hsz:vals.size=args.length:=by simpa using h1
 have hR:Rel N ⟨w,λ_=>False,λ_=>ξ,F,λ_=>False,⟨hT,λ_ _ h=>h⟩,λ_=>False⟩ E ⟨uj 0 args,[],0⟩ {tmps:=vals++Ym (fn.ntmps-vals.size) undef,defers:=[]} w:=by
  refine⟨⟨hF,λ_ h=>h.elim,λ_ h=>h.elim,(λ_ _ _ h=>by cases h),(λ_ _ _ _ _ h=>by cases h),rfl,rfl,rfl,Yj _,λ_ _ _=>rfl,(λ_ _ _ h=>by cases h),λ_ h=>.inl h,λb h h'=>absurd (hF b h) (by simp_all),⟨λ_ _ h=>h.elim,λ_ _ _ h=>h.elim,λ_ h=>h.elim,λ_ h=>h.elim,λ_ h=>h.elim⟩⟩,(λ_ _ h=>by cases h),(λ_ _ h=>by cases h),λk=>?_,rfl,by simp;omega,λ_ _ h=>h.elim⟩
  by_cases hk:k<args.length
  .obtain⟨u,h3,h4⟩:=(h2 k).1 ⟨Yu _,by omega⟩
   have:(vals++Ym (fn.ntmps-vals.size) undef).getD k undef=u:=by
    have h5:vals[k]?=ς u:=by simpa using h3
    have h6:(vals++Ym (fn.ntmps-vals.size) undef)[k]?=ς u:=by rw[Zf oaa];exact h5
    simp[h6]
   simp_all
  have:=(h2 k).2 oaa
  show cvT E w (gt (uj 0 args) k) _
  rw[this];trivial
 refine wp_mono (h _ E _ w hR) ?_
 rintro e a' w' ⟨E',s',hR',hq⟩
 have fin:(∃s'' k o cs,cM N s' s''/\fn.results.toList=[.tmp k]/\gt s''.sl k= .v (.c (.p o 0))/\go s''.ob o=ς (.var ty cs)/\xz cs=ς xs/\rsv o=η)->
  a'.defers=[]/\∃v,(results fn a'.tmps).run P w'= .ok v w'/\∃(b:Nat) (arr:Array Value) (G:Nat->Prop),Ending.returned v= .returned (.pointer (ς ⟨b,0,ξ⟩))/\Da w w' (λ_=>False)/\(∀k,G k->w.heap.size<=k/\k<w'.heap.size/\iV w' k)/\w.heap.size<=b/\b<w'.heap.size/\¬G b/\w'.heap[b]?=ς (.cells arr ty (0,0))/\DV w' (λk=>F k\/G k) xs arr.toList:=by
  rintro⟨s'',k,o,cs,hw,hr1,hg,ho,hd,hv⟩
  obtain⟨E'',hR''⟩:=hw _ _ _ _ hR'
  have ok:=hR''.ok
  have hsl:=hR''.sl k
  rw[hg] at hsl
  obtain⟨b,cc,hrb,hu⟩:=hsl
  obtain⟨b',c',arr,k1,k2,k3,k4⟩:=hR''.obs o _ ho
  rw[hrb] at k1;cases k1
  have hfr:fn.results= #[.tmp k]:=by apply Array.ext';simpa using hr1
  refine⟨hR''.dfr,.pointer (ς ⟨b,0,ξ⟩),?_,b,arr,λk=>E''.F k/\w.heap.size<=k,rfl,⟨ok.os,ok.tape,ok.output,ok.size,ok.block⟩,λk hk=>⟨hk.2,ok.fb k hk.1,ok.gc k hk.1 hk.2⟩,?_,(ok.rb o b cc hrb).1,λh=>k4 h.1,k2,?_⟩
  .have hres:results fn a'.tmps=(fn.results.mapM (lR a'.tmps))>>= λvs=>pure (if h:vs.size=1 then vs[0] else .tuple vs):=rfl
   rw[hres,hfr]
   simp[lR,hu]
  .rcases(ok.rb o b cc hrb).2 with h|h
   .exact h
   simp_all
  exact EK (λ_ _=>rfl) (λk hk=>(ok.ff k hk).elim .inl (λh=>.inr ⟨hk,h⟩)) (DG ok hd k3)
 cases e with
 |normal=>exact fin hq
 |ret=>exact fin hq
 |_=>exact hq.elim
theorem Uq{d:Tmp}{ty0:TypeId}{avs:List AV}{eqs:Lac}{xs:List D}(hl:ts.length=args.length)(ha:Ey [] ts=ς (avs,eqs))(hF:FnN P f avs ty xs)(he:Eqs eqs):
 AWN P ⟨ς d,.call ⟨.value (.func f),args.toArray,tys⟩,ty0,ps,af,gd⟩ (args.zip ts) [] (.v (.c (.p nx 0))) [(nx,.var ty (xs.map (ldC η)))]:=by
 intro cx E a w ok hn hb hfr
 have hA:=IY ok (nob:=[]) (λl x h=>by cases h) ha he hl hn
 have hcF:∀b,lk E [] b->E.F b:=by
  rintro b (h|⟨l,x,c,h1,h2⟩)
  .exact h
  cases h1
 have hc:=hF.calls (lk E []) w (args.map a.eval).toArray (λb h=>ok.fb b (hcF b h)) ok.tabs oaa
 have hent:=hF.enters (args.map a.eval).toArray w
 unfold Oper.wp
 have hrun:(execOp a.eval ⟨ς d,.call ⟨.value (.func f),args.toArray,tys⟩,ty0,ps,af,gd⟩).run P w= .ok (.enter f (args.map a.eval).toArray) w:=by
  simp only[execOp,resolve,Act.eval,Deferred.ofValue,Sem.run_bind,Sem.run_pure,Result.andThen_ok,invoke]
  simpa using hent
 rw[hrun,Oper.upon_enter]
 refine hc.mono ?_
 rintro e w' ⟨b,arr,G,rfl,hp,hG,hb1,hb2,hbG,hh,hD⟩
 obtain⟨hl0,hrv⟩:=hfr nx (.var ty (xs.map (ldC η))) (Y5.2 rfl)
 obtain⟨ok',ext⟩:=DI (nx:=nx) (bs:=[(b,0)]) ok hp hG (by simp_all) (by simp) (λl h1 h2=>by
  grind)
 have hr:(E.after nx [(b,0)] G).r nx=ς (b,0):=by simp[Env.after]
 refine⟨.pointer (ς ⟨b,0,ξ⟩),E.after nx [(b,0)] G,rfl,ok',ext,⟨b,0,hr,rfl⟩,λl ob hm=>?_,λl x hx=>?_⟩
 .simp at hm;obtain⟨rfl,rfl⟩:=hm
  refine⟨b,0,arr,hr,hh,?_,?_⟩
  .exact OY (E:=E.after l [(b,0)] G) (F:=λk=>E.F k\/G k) rfl (EK (λ_ _=>rfl) (λk hk=>hk.elim (λh=>.inl (hcF k h)) .inr) hD)
  rintro(h|h)
  .have:=ok.fb b h;omega
  simp_all
 simp only[Env.after] at hx
 grind
theorem cn{d:Tmp}{ty0:TypeId}{ob:Laa}{avs:List AV}{eqs:Lac}{xs:List D}(hF:FnN P f avs ty xs)(ht:pj sl args=ς ts)(ha:Ey [] ts=ς (avs,eqs))(he:Eqs eqs)(hc:ldO η xs=ς cs)(hN:nlt d N=ζ)(hq:nxt nx=ς nx'):
 NS P N ⟨ς d,.call ⟨.value (.func f),args.toArray,tys⟩,ty0,ps,af,gd⟩ ⟨sl,ob,nx⟩ ⟨(d,.v (.c (.p nx 0)))::sl,(nx,.var ty cs)::ob,nx'⟩ ⟨d,args.zip ts,[],.v (.c (.p nx 0)),[(nx,.var ty cs)]⟩:=by
 obtain⟨h1,h2⟩:=qS ht
 rw[Fw hc]
 exact dh (st:=⟨sl,ob,nx⟩) (Uq h1 ha hF he) rfl hN h2 trivial (mM hq)
def EZ(R:Nat->Prop):Env:={r:=λ_=>ξ,F:=λ_=>False,G:=λ_=>False,Z:=R}
structure Vq(w w':World)(R:Nat->Prop):Prop where
 os:w'.os=w.os
 tape:w'.tape=w.tape
 output:w'.output=w.output
 size:w.heap.size<=w'.heap.size
 block:∀b,b<w.heap.size->¬R b->w'.heap[b]?=w.heap[b]?
 sim:∀b,R b->pM w w' b/\iV w' b
structure FnM(P:Program)(f:FuncId)(args:List T)(n:Int):Prop where
 enters:∀(vs:Array Value) (w:World),(callFunc f vs).run P w= .ok (.enter f vs) w
 calls:∀(R:Nat->Prop) (w:World) (vals:Array Value),(∀b,R b->b<w.heap.size/\iV w b)->TabsIn w->(∀k∈pA,¬R k)->TV (EZ R) w args vals.toList->
  Calls P f vals w λe w'=>e= .returned (.int .i64 n)/\Vq w w' R
section
variable{P:Program}{N:Nat}{d:Tmp}{x y:Operand}{ty:TypeId}{ps:String}{af:Array Edge}{gd:Option (Nat×Bool)}{sl:Lab}{ob:Laa}{nx:Nat}{α:Type}{enc:α->List D}
theorem Uu{xs:Lad}{by_:Nat}[ht:dB P t e sz by_]:AWN P ⟨ς d,.call ⟨.builtin .len,#[x],#[t]⟩,ty,ps,af,gd⟩ [(x,.v (.c (.z (.l xs))))] [] (tI xs.length) []:=
 cd λE ac w hn _=>by
  have h:=hn x _ (.head _)
  simp only[cvT,cvV,cvC,rsD] at h
  obtain⟨A,c,hu,_⟩:=h
  exact⟨_,by simp[execOp,resolve,invoke,builtin,hu,Builtin.len_,underlying,ht.u,goInt];rfl,by rfl⟩
theorem NF{f off ft:Nat}{e:List D}[h:TyF P t f off ft]:AWN P ⟨ς d,.fieldAddr t x f,ty,ps,af,gd⟩ [(x,.v (.c (.zq e j)))] [] (.v (.c (.zq e (j+off)))) []:=
 cd λE a w hn _=>by
  obtain⟨b,k,hu,hb,hl⟩:=hn x _ (.head _)
  exact⟨_,by simp[execOp,hu,qL];rfl,b,k,by simp_all,hb,hl⟩
theorem QQ{e:List D}{xd:D}[ht:ic P t](hc:e[j]?=ς xd):AWN P ⟨ς d,.load t x,ty,ps,af,gd⟩ [(x,.v (.c (.zq e j)))] [] (.v (.c (.z xd))) []:=
 cd λE a w hn _=>by
  obtain⟨b,k,hu,hb,hl⟩:=hn x _ (.head _)
  obtain⟨u,h1,h2⟩:=Ke hl hc
  exact⟨u,by simp_all[execOp,lL],h2⟩
theorem Ik{w:World}{F:Nat->Prop}:∀{e:List D} {b k:Nat},rsL w F e b k->∃us:Lae,us.length=e.length/\(∀(j:Nat) (u:Value),us[j]?=ς u->w.cell? ⟨b,k+j,ξ⟩=ς u)/\∀(j:Nat) (xd:D),e[j]?=ς xd->∃u,us[j]?=ς u/\rsD w F xd u
 |[],b,k,_=>⟨[],rfl,by simp,by simp⟩
 |x::e,b,k,h=>by
  rw[rsL] at h
  obtain⟨⟨u,hc,hu⟩,h⟩:=h
  obtain⟨us,h1,h2,h3⟩:=Ik h
  refine⟨u::us,by simp[h1],λj v hj=>?_,λj xd hj=>?_⟩
  .grind
  grind
theorem GN{E:Env}{w:World}:∀{e:List D} {us:Lae},us.length=e.length->(∀(j:Nat) (xd:D),e[j]?=ς xd->∃u,us[j]?=ς u/\rsD w E.Z xd u)->CV E w (e.map C.z) us
 |[],[],_,_=>trivial
 |x::e,u::us,hl,h=>by
  obtain⟨v,h1,h2⟩:=h 0 x rfl
  simp at h1;subst h1
  exact⟨h2,GN (by simpa using hl) λj xd hj=>by obtain⟨v,h3,h4⟩:=h (j+1) xd (by simpa using hj);exact⟨v,by simpa using h3,h4⟩⟩
 |[],_::_,hl,_=>by simp at hl
 |_::_,[],hl,_=>by simp at hl
theorem Cl{w:World}{F:Nat->Prop}:∀{e:List D} {b k:Nat} (_:rsL w F e b k) (j n:Nat),rsL w F ((e.drop j).take n) b (k+j)
 |[],b,k,_,j,n=>by simp[rsL]
 |x::e,b,k,h,0,0=>by simp[rsL]
 |x::e,b,k,h,0,n+1=>by
  rw[rsL] at h
  have:=Cl h.2 0 n
  simp_all[List.drop_zero,YH,YN,rsL]
 |x::e,b,k,h,j+1,n=>by
  rw[rsL] at h
  have:=Cl h.2 j n
  grind
def zO:List D->Option (List C)
 |[]=>ς []
 |x::xs=>match zO xs with|some r=>ς (.z x::r)|none=>ξ
theorem V6:∀{xs:List D} {cs:List C},zO xs=ς cs->cs=xs.map C.z
 |[],cs,h=>by simp[zO] at h;subst h;rfl
 |x::xs,cs,h=>by
  simp only[zO] at h
  split at h
  .rename_i r h1;simp at h;subst h;rw[V6 h1];rfl
  cases h
def zPO(j n:Nat)(e:List D):Option (List C):=match yG j n e with|some r=>zO r|none=>ξ
theorem FL{e:List D}[ht:fU P t n](hj:zPO j n e=ς cs):
 AWN P ⟨ς d,.load t x,ty,ps,af,gd⟩ [(x,.v (.c (.zq e j)))] [] (.v (.agg cs)) []:=
 cd λE a w hn _=>by
  simp only[zPO] at hj
  split at hj
  .rename_i r h1
   obtain⟨rfl,hle⟩:=yH h1
   rw[V6 hj]
   obtain⟨b,k,hu,hb,hl⟩:=hn x _ (.head _)
   obtain⟨us,k1,k2,k3⟩:=Ik (Cl hl j n)
   have hlen:us.length=n:=by rw[k1];simp;omega
   exact⟨.agg us.toArray,by simp[execOp,hu,p5 hlen k2],us.toArray,rfl,by grind[GN]⟩
  cases hj
theorem lz{xs:List α}{by_:Nat}[dB P t e sz by_](hx:opT sl x= .v (.c (.z (.l (xs.map enc)))))(hN:nlt d N=ζ):
 NS0 P N ⟨ς d,.call ⟨.builtin .len,#[x],#[t]⟩,ty,ps,af,gd⟩ sl ob nx d (tI xs.length) ⟨d,[(x,.v (.c (.z (.l (xs.map enc)))))],[],tI xs.length,[]⟩:=by
 have:=dh (st:=⟨sl,ob,nx⟩) (Uu (P:=P) (d:=d) (ty:=ty) (ps:=ps) (af:=af) (gd:=gd) (t:=t) (xs:=xs.map enc) (x:=x)) rfl hN ⟨hx,θ⟩ trivial rfl
 simp_all
theorem fz{f off ft:Nat}{e:List D}{j':Nat}[TyF P t f off ft](hx:opT sl x= .v (.c (.zq e j)))(hN:nlt d N=ζ)(hk:j+off=j'):NS0 P N ⟨ς d,.fieldAddr t x f,ty,ps,af,gd⟩ sl ob nx d (.v (.c (.zq e j'))) ⟨d,[(x,.v (.c (.zq e j)))],[],.v (.c (.zq e j')),[]⟩:=by
 subst hk;exact dh (st:=⟨sl,ob,nx⟩) NF rfl hN ⟨hx,θ⟩ trivial rfl
theorem oz{e:List D}{xd:D}[ic P t](hx:opT sl x= .v (.c (.zq e j)))(hN:nlt d N=ζ)(hc:e[j]?=ς xd):
 NS0 P N ⟨ς d,.load t x,ty,ps,af,gd⟩ sl ob nx d (.v (.c (.z xd))) ⟨d,[(x,.v (.c (.zq e j)))],[],.v (.c (.z xd)),[]⟩:=dh (st:=⟨sl,ob,nx⟩) (QQ hc) rfl hN ⟨hx,θ⟩ trivial rfl
theorem oza{e:List D}[fU P t n](hx:opT sl x= .v (.c (.zq e j)))(hN:nlt d N=ζ)(hc:zPO j n e=ς cs):
 NS0 P N ⟨ς d,.load t x,ty,ps,af,gd⟩ sl ob nx d (.v (.agg cs)) ⟨d,[(x,.v (.c (.zq e j)))],[],.v (.agg cs),[]⟩:=dh (st:=⟨sl,ob,nx⟩) (FL hc) rfl hN ⟨hx,θ⟩ trivial rfl
def xa:D->C->Bool
 | .i k _,.d _ (.i k' _)=>k==k'
 | .b _,.d _ (.b _)=>ζ
 | .str _,.d _ (.str _)=>ζ
 |_,_=>η
theorem Rw{cx:Cx}(hR:Rel N cx E st a w)(hp:Vq w w' E.Z):Rel N cx E st a w':=by
 have hz:∀b,E.Z b->¬E.F b:=λb h=>(hR.ok.sf.zb b h).2.1
 have hHn:∀g b,E.H g b->¬E.Z b:=λg b h hb=>by cases g;exact hz b hb h;exact hz b hb (hR.ok.gf b h)
 have hrn:∀o b c,E.r o=ς (b,c)->¬E.Z b:=λo b c h hb=>(hR.ok.sf.zb b hb).2.2.1 o c h
 have htn:∀l b,E.T l b->¬E.Z b:=λl b h hb=>by have h1:=(hR.ok.sf.tb l b h).1.2;have h2:=(hR.ok.sf.zb b hb).1.1;omega
 have hk:jV E w E w':=⟨λ_ _ h=>h,λ_ _ h=>h,λg b h=>hp.block b (hR.ok.hb h) (hHn g b h),λl b h=>⟨h,hp.block b (hR.ok.sf.tb l b h).1.1 (htn l b h)⟩,λb h=>⟨h,(hp.sim b h).1⟩,rfl⟩
 have hsz:=hp.size
 refine⟨⟨λb h=>by have:=hR.ok.fb b h;omega,hR.ok.gf,hR.ok.gn,λo b c h=>⟨by have:=(hR.ok.rb o b c h).1;omega,(hR.ok.rb o b c h).2⟩,hR.ok.inj,hp.os.trans hR.ok.os,hp.tape.trans hR.ok.tape,hp.output.trans hR.ok.output,by have:=hR.ok.size;omega,λb h hW=>?_,hR.ok.pin,hR.ok.ff,λb h h'=>(hR.ok.gc b h h').of_eq (hp.block b (hR.ok.fb b h) (hHn η b h)),?_⟩,hR.dom,λo x h=>?_,λk=>jM hk (hR.sl k),hR.dfr,hR.size,hR.td⟩
 .rw[hp.block b (by have:=hR.ok.size;omega) (λhz=>hW (hR.ok.sf.zb b hz).1.2.2)];exact hR.ok.block b h hW
 .refine⟨λl b h=>?_,hR.ok.sf.tt,λb h=>?_,λb h=>?_,hR.ok.sf.ze⟩
  .obtain⟨h1,h2,h3,h4⟩:=hR.ok.sf.tb l b h
   exact⟨⟨by omega,h1.2⟩,h2,h3,h4.of_eq (hp.block b h1.1 (htn l b h))⟩
  .obtain⟨h1,h2,h3,h4⟩:=hR.ok.sf.zc b h
   refine⟨⟨h1.1,by omega,h1.2.2⟩,h2,h3,?_⟩
   by_cases hb:E.Z b
   .exact(hp.sim b hb).2
   exact h4.of_eq (hp.block b h1.2.1 hb)
  refine(hR.ok.sf.zs b h).trans ?_
  by_cases hb:E.Z b
  .exact(hp.sim b hb).1
  exact .of_eq (hp.block b (hR.ok.sf.zc b h).1.2.1 hb)
 exact f8 hk (λb c h'=>hp.block b (hR.ok.rb o b c h').1 (hrn o b c h')) (λ_ _ _ h=>h) (hR.obs o x h)
theorem vX{arr:Array Value}{ty':TypeId}{fz:Nat×Nat}(h:w.heap[b]?=ς (.cells arr ty' fz)):w.cell? ⟨b,k,ξ⟩=arr[k]?:=by
 simp[World.cell?,h]
theorem Gw{vt:TypeId}{arr:Array Value}{fz:Nat×Nat}[ht:TyN P t 1](hu:u.cells= #[u])(h1:u.oneCell'=ζ)(hh:w.heap[b]?=ς (.cells arr vt fz))(hf:fz=(0,0)\/arr.size<=fz.1)(hk:k<arr.size):
 (Instr.storeAt t (.pointer (ς ⟨b,k,ξ⟩)) u).run P w= .ok () (w.setRow b (arr.setIfInBounds k u)):=by
 obtain⟨i,hi,hn⟩:=ht.n
 have hadd:(⟨b,k,ξ⟩:Addr).add 0=⟨b,k,ξ⟩:=by unfold Addr.add;split<;>simp_all
 have hcell:w.cell? ⟨b,k,ξ⟩=ς arr[k]:=by simp[World.cell?,hh,hk]
 have hfro:w.frozen? ⟨b,k,ξ⟩=false:=by
  rcases hf with rfl|hf
  .grind[World.frozen?]
  grind[World.frozen?]
 have hst:(store ((⟨b,k,ξ⟩:Addr).add 0) u).run P w= .ok () (w.setRow b (arr.setIfInBounds k u)):=by
  rw[hadd,run_store P w _ u _ h1,hcell]
  simp[hfro,setCell_eq_setRow w b k arr vt fz u hh]
 simp_all[Instr.storeAt,Instr.sureAddr,storeVar,eA,storeCells]
theorem stz{e:List D}{xd:D}{c:C}[ht:TyN P t 1](hx:opT sl x= .v (.c (.zq e j)))(hy:opT sl y= .v (.c c))(hc:e[j]?=ς xd)(hl:xa xd c=ζ):AWO P N ⟨ξ,.store t x y,ty,ps,af,gd⟩ ⟨sl,ob,nx⟩ ⟨sl,ob,nx⟩:=by
 intro cx E a w hR
 have h1:=hR.op x;rw[hx] at h1
 have h2:=hR.op y;rw[hy] at h2
 obtain⟨b,k,hu,hb,hrs⟩:=h1
 obtain⟨u,hcell,hud⟩:=Ke hrs hc
 have hsim:Km u (a.eval y)/\(a.eval y).cells= #[a.eval y]/\(a.eval y).oneCell'=true:=by
  cases xd with
  |i kd n=>
   cases c with
   |d g z=>
    cases z with
    |i kd' n'=>
     simp[xa] at hl;subst hl
     have h2:a.eval y= .int kd n':=by simpa [cvT,cvV,cvC,rdD] using h2
     rw[rsD] at hud
     obtain⟨m,rfl⟩:=hud
     rw[h2];exact⟨.inr (.inl ⟨_,_,_,rfl,rfl⟩),rfl,rfl⟩
    |_=>grind[xa]
   |_=>grind[xa]
  |b n=>
   cases c with
   |d g z=>
    cases z with
    |b n'=>
     have h2:a.eval y= .bool n':=by simpa [cvT,cvV,cvC,rdD] using h2
     rw[rsD] at hud
     obtain⟨m,rfl⟩:=hud
     rw[h2];exact⟨.inr (.inr (.inl ⟨_,_,rfl,rfl⟩)),rfl,rfl⟩
    |_=>grind[xa]
   |_=>grind[xa]
  |str n=>
   cases c with
   |d g z=>
    cases z with
    |str n'=>
     have h2:a.eval y= .string n':=by simpa [cvT,cvV,cvC,rdD] using h2
     rw[rsD] at hud
     obtain⟨m,rfl⟩:=hud
     rw[h2];exact⟨.inr (.inr (.inr ⟨_,_,rfl,rfl⟩)),rfl,rfl⟩
    |_=>grind[xa]
   |_=>grind[xa]
  |l xs=>simp_all[xa]
  |k A n c'=>simp_all[xa]
 obtain⟨hs1,hs2,hs3⟩:=hsim
 obtain⟨arr,vt,fz,hh,hfz⟩:=(hR.ok.sf.zb b hb).2.2.2
 have hlt:k+j<arr.size:=by
  rw[vX hh] at hcell
  rcases Yx (k+j) arr.size with h|h
  .exact h
  simp_all
 have hrun:=Gw (P:=P) (t:=t) (b:=b) (k:=k+j) (u:=a.eval y) (w:=w) hs2 hs3 hh hfz hlt
 unfold Oper.wp
 simp only[execOp,hu,Sem.run_bind,hrun,Result.andThen_ok,Sem.run_pure,Oper.upon_skip,Act.put]
 refine⟨E,Rw hR ⟨rfl,rfl,rfl,by simp,λk' _ hk'=>dw _ _ _ _ (λe=>hk' (e▸hb)),λb' hb'=>?_⟩⟩
 by_cases hbb:b'=b
 .subst hbb
  have hsr:(w.setRow b' (arr.setIfInBounds (k+j) (a.eval y))).heap[b']?=ς (.cells (arr.setIfInBounds (k+j) (a.eval y)) vt fz):=setRow_heap w b' arr _ vt fz hh
  refine⟨λi v hv=>?_,_,_,_,hsr,by simp_all⟩
  rw[vX hh] at hv hcell
  rw[vX hsr]
  by_cases hi:i=k+j
  .simp_all
  refine⟨v,?_,.inl rfl⟩
  grind
 exact⟨.of_eq (dw _ _ _ _ hbb),(hR.ok.sf.zb b' hb').2.2.2.of_eq (dw _ _ _ _ hbb)⟩
def C.hasR(l:Nat):C->Bool
 | .r k _=>f4 k l
 |_=>η
def Hz(l:Nat):List C->Bool
 |[]=>η
 |c::cs=>c.hasR l||Hz l cs
def V.hasR(l:Nat):V->Bool
 | .c x=>x.hasR l
 | .agg xs=>Hz l xs
def Fr(l:Nat):List V->Bool
 |[]=>η
 |v::vs=>v.hasR l||Fr l vs
def T.hasR(l:Nat):T->Bool
 | .v x=>x.hasR l
 | .tup xs=>Fr l xs
 | .any=>η
def Aa(l:Nat):Lab->Option Lab
 |[]=>ς []
 |(k,t)::r=>match Aa l r with
  |some r'=>match t.hasR l with
   |true=>ς ((k,.any)::r')
   |false=>ς ((k,t)::r')
  |none=>ξ
theorem Hi{l:Nat}:∀{sl sl':Lab},Aa l sl=ς sl'->∀k,gt sl' k= .any\/(gt sl' k=gt sl k/\(gt sl k).hasR l=η)
 |[],sl',h,k=>by simp[Aa] at h;subst h;exact .inl rfl
 |(j,t)::r,sl',h,k=>by
  simp only[Aa] at h
  split at h
  .rename_i r' h1
   have ih:=Hi h1 k
   split at h
   .simp at h;subst h
    by_cases hj:j=k
    .subst hj;left;rw[cW]
    rw[cy _ _ hj,cy _ _ hj];exact ih
   rename_i ht
   simp at h;subst h
   by_cases hj:j=k
   .subst hj;right;rw[cW,cW];exact⟨rfl,ht⟩
   rw[cy _ _ hj,cy _ _ hj];exact ih
  cases h
structure KeepsR(l:Nat)(E:Env)(w:World)(E':Env)(w':World):Prop where
 r:∀o x,E.r o=ς x->E'.r o=ς x
 H:∀g b,E.H g b->E'.H g b
 heap:∀g b,E.H g b->w'.heap[b]?=w.heap[b]?
 T:∀k b,k≠l->E.T k b->E'.T k b/\w'.heap[b]?=w.heap[b]?
 Z:∀b,E.Z b->E'.Z b/\pM w w' b
 n:E'.n=E.n
end
def mz(ns:List Int):ByteArray:=ns.foldl (λr n=>r.push (UInt8.ofNat n.toNat)) ByteArray.empty
def bIx(s:ByteArray)(i:Int):Option Int:=bif leB 0 i then(s[i.toNat]?).map (λc=>(c.toNat:Int)) else ξ
section
variable{P:Program}{N:Nat}{d:Tmp}{x y:Operand}{ty:TypeId}{ps:String}{af:Array Edge}{gd:Option (Nat×Bool)}{sl:Lab}{ob:Laa}{nx:Nat}
theorem Mf{w:World}{F:Nat->Prop}{b:Nat}:∀{xs:List Int} {k:Nat},rdLL w F (xs.map eU8) b k->∀(j:Nat) (u:Value),(xs.map (Value.int .u8))[j]?=ς u->w.cell? ⟨b,k+j,ξ⟩=ς u
 |[],k,_,j,u,h=>by simp at h
 |n::xs,k,h,j,u,hj=>by
  rw[Yq,rdLL] at h
  obtain⟨h1,h2⟩:=h
  simp only[eU8,rdL,rdD] at h1
  obtain⟨⟨v,hc,rfl⟩,_⟩:=h1
  cases j with
  |zero=>simp_all
  |succ j=>
   have:=Mf h2 j u (by simp_all)
   rwa [show k+(eU8 n).length+j=k+(j+1) from by simp[eU8];omega] at this
theorem Mk{F:Nat->Prop}{A:Option Addr}{xs:List Int}{c:Nat}(h:xs=[]\/∃b off,A=ς ⟨b,off,ξ⟩/\rdLL w F (xs.map eU8) b off):(Conv.bytesToString (.slice A xs.length c)).run P w= .ok (.string (mz xs)) w:=by
 cases A with
 |none=>
  rcases h with rfl|⟨b,off,h,_⟩
  .rfl
  cases h
 |some a=>
  refine run_bytesToString w a xs.length c xs ?_
  rcases h with rfl|⟨b,off,h,hr⟩
  .rfl
  cases h
  have:=jX (P:=P) (b:=b) (k:=off) (w:=w) (xs.map (Value.int .u8)) 0 #[] (λj u hj=>by rw[Yl];exact Mf hr j u hj)
  simpa [loadCells] using this
theorem n_bts{e:TypeId}{by_:Nat}{xs:List Int}[hs:dB P t e sz by_][he:TyU P e (.int .u8)][hd:TyU P t' .string]:
 AWN P ⟨ς d,.convert t t' x,ty,ps,af,gd⟩ [(x,.v (.c (.d g (.l (xs.map eU8)))))] [] (tS (mz xs)) []:=
 cd λE ac w hn _=>by
  have h:=hn x _ (.head _)
  simp only[cvT,cvV,cvC,rdD] at h
  obtain⟨A,c,hu,_,h⟩:=h
  rw[YA] at hu
  refine⟨.string (mz xs),?_,by rfl⟩
  have:=Mk (P:=P) (w:=w) (F:=E.H g) (A:=A) (xs:=xs) (c:=c) (by
   grind)
  simp only[execOp,hu,Sem.run_bind,run_convert_bytes_string w t t' e A xs.length c hs.u he.h hd.h,this,Result.andThen_ok,Sem.run_pure]
theorem n_btw{e:TypeId}{by_:Nat}{o rt sz':Nat}{xs:List Int}(hl:xs.length=n)[hs:dB P t e sz by_][he:TyU P e (.int .u8)][hd:TyU P t' .string]:
 AWN P ⟨ς d,.convert t t' x,ty,ps,af,gd⟩ [(x,.v (.c (.w o n)))] [(o,.row rt sz' (xs.map eU8) g m)] (tS (mz xs)) []:=
 cd λE ac w hn hb=>by
  obtain⟨b,c,hr,hu⟩:=hn x _ (.head _)
  obtain⟨b',c',arr,hr',hh,ha,hlc,hmx,hes,hrd,_⟩:=hb o _ (.head _)
  rw[hr] at hr';cases hr'
  subst hl
  refine⟨.string (mz xs),?_,by rfl⟩
  have:=Mk (P:=P) (w:=w) (F:=E.H g) (A:=ς ⟨b,0,ξ⟩) (xs:=xs) (c:=c) (.inr ⟨b,0,rfl,hrd⟩)
  simp only[execOp,hu,Sem.run_bind,run_convert_bytes_string w t t' e _ xs.length c hs.u he.h hd.h,this,Result.andThen_ok,Sem.run_pure]
theorem bt1{e:TypeId}{by_:Nat}{xs:List Int}[dB P t e sz by_][TyU P e (.int .u8)][TyU P t' .string](hx:opT sl x= .v (.c (.d g (.l (xs.map eU8)))))(hN:nlt d N=ζ):
 NS0 P N ⟨ς d,.convert t t' x,ty,ps,af,gd⟩ sl ob nx d (tS (mz xs)) ⟨d,[(x,.v (.c (.d g (.l (xs.map eU8)))))],[],tS (mz xs),[]⟩:=dh (st:=⟨sl,ob,nx⟩) n_bts rfl hN ⟨hx,θ⟩ trivial rfl
theorem bt2{e:TypeId}{by_:Nat}{o rt sz':Nat}{xs:List Int}[dB P t e sz by_][TyU P e (.int .u8)][TyU P t' .string](hx:opT sl x= .v (.c (.w o n)))(ho:go ob o=ς (.row rt sz' (xs.map eU8) g m))(hl:xs.length=n)(hN:nlt d N=ζ):
 NS0 P N ⟨ς d,.convert t t' x,ty,ps,af,gd⟩ sl ob nx d (tS (mz xs)) ⟨d,[(x,.v (.c (.w o n)))],[(o,.row rt sz' (xs.map eU8) g m)],tS (mz xs),[]⟩:=dh (st:=⟨sl,ob,nx⟩) (n_btw hl) rfl hN ⟨hx,θ⟩ ⟨ho,θ⟩ rfl
theorem xstT{kd:IntKind}{s:ByteArray}{i:Int}[TyU P t .string](H:bIx s i=ς r)(hx:opT sl x= .v (.c (.d g (.str s))):=by exact rfl)(hy:opT sl y= .v (.c (.d g' (.i kd i))):=by exact rfl)(hN:nlt d N=true:=by exact rfl):
 NS0 P N ⟨ς d,.index t x y,ty,ps,af,gd⟩ sl ob nx d (.v (.c (.d η (.i .u8 r)))) ⟨d,[(x,.v (.c (.d g (.str s)))),(y,.v (.c (.d g' (.i kd i))))],[],.v (.c (.d η (.i .u8 r))),[]⟩:=by
 unfold bIx at H
 cases hb:leB 0 i with
 |false=>simp_all
 |true=>
  rw[hb] at H
  cases hc:s[i.toNat]? with
  |none=>simp_all
  |some c=>
   rw[hc] at H;simp at H;subst H
   exact dh (st:=⟨sl,ob,nx⟩) (HV (by simp_all) hc) rfl hN ⟨hx,hy,θ⟩ trivial rfl
end
structure MW(up:Laa)(E:Env)(w:World)(E':Env)(w':World):Prop where
 r:∀o x,E.r o=ς x->E'.r o=ς x
 F:∀b,E.F b->E'.F b
 G:∀b,E.G b->E'.G b
 F':∀b,E'.F b->E.F b\/w.heap.size<=b
 heap:∀b,b<w.heap.size->(∀l ob c,(l,ob)∈up->E.r l≠ς (b,c))->w'.heap[b]?=w.heap[b]?
 own:∀l ob b c,(l,ob)∈up->E.r l=ς (b,c)->¬E.F b
 T:E'.T=E.T
 Z:E'.Z=E.Z
 n:E'.n=E.n
theorem MW.of_ext(x:Ext E w E' w'):MW [] E w E' w':=⟨x.r,x.F,x.G,x.F',λb h _=>x.heap b h,λ_ _ _ _ h=>(by cases h),x.T,x.Z,x.n⟩
theorem jV.of_extW{cx:Cx}{up:Laa}(ok:da cx E w)(x:MW up E w E' w'):jV E w E' w':=by
 have hF:∀b,E.F b->w'.heap[b]?=w.heap[b]?:=λb h=>x.heap b (ok.fb b h) (λl ob c hm hr=>x.own l ob b c hm hr h)
 refine⟨x.r,λg b h=>by cases g;exact x.F b h;exact x.G b h,λg b h=>by cases g;exact hF b h;exact hF b (ok.gf b h),λl b h=>⟨by rw[x.T];exact h,x.heap b (ok.sf.tb l b h).1.1 (λl' ob c _ hr=>(ok.sf.tb l b h).2.2.1 l' c hr)⟩,
  λb h=>⟨by rw[x.Z];exact h,.of_eq (x.heap b (ok.sf.zb b h).1.2.1 (λl' ob c _ hr=>(ok.sf.zb b h).2.2.1 l' c hr))⟩,x.n⟩
def AWX(P:Program)(o:Oper)(needs:List (Operand×T))(nob:Laa)(out:T)(nw up:Laa):Prop:=
 ∀(cx:Cx) (E:Env) (a:Act) (w:World),da cx E w->(∀x t,(x,t)∈needs->cvT E w t (a.eval x))->(∀l ob,(l,ob)∈nob->cB E w l ob)->
  (∀l ob,(l,ob)∈nw->E.r l=ξ/\rsv l=η)->
  o.wp P a w (λa' w'=>∃v E',a'=a.put o.dst v/\da cx E' w'/\MW up E w E' w'/\cvT E' w' out v/\(∀l ob,(l,ob)∈nw->cB E' w' l ob)/\(∀l ob,(l,ob)∈up->cB E' w' l ob)/\
   (∀l x,E'.r l=ς x->E.r l=ς x\/∃ob,(l,ob)∈nw)) (λ_ _ _=>False)
theorem Bn{o:Oper}{needs:List (Operand×T)}(h:AWN P o needs nob out nw):AWX P o needs nob out nw []:=by
 intro cx E a w ok hn hb hf
 refine Oper.wp_mono ?_ (h cx E a w ok hn hb hf)
 rintro a' w' ⟨v,E',h1,h2,h3,h4,h5,h6⟩
 exact⟨v,E',h1,h2,.of_ext h3,h4,h5,(λ_ _ h=>by cases h),h6⟩
theorem M5{d:Tmp}{o:Nat}{x0:Ob}{eqs:Lac}(hF:FnW P f x0.loc ts' y res)(hlen:ts.length=args.length)(hfx:x0.free=ζ)(hfy:y.free=ζ)(ha:xc [] o ts=ς (ts',eqs))(he:Eqs eqs)(hi:xF nx res=ς (out,nw,n)):
 AWX P ⟨ς d,.call ⟨.value (.func f),args.toArray,tys⟩,ty,ps,af,gd⟩ (args.zip ts) [(o,x0)] out nw [(o,y)]:=by
 intro cx E a w ok hn hb hfr
 obtain⟨nob,hnob⟩:∃nob:Laa,nob=[]:=⟨_,rfl⟩
 rw[<-hnob] at ha
 have hob:∀l x,go nob l=ς x->cB E w l x:=λl x h=>by subst hnob;cases h
 have hx0:=hb o x0 (by simp)
 obtain⟨b,c0,hr,hbF⟩:∃b c0,E.r o=ς (b,c0)/\¬E.F b:=by
  cases x0 with
  |rown ty sz els g=>exact absurd hfx Y6
  |abs l y=>exact absurd hfx Y6
  |var t cs=>obtain⟨b,c,arr,h1,h2,h3,h4⟩:=hx0;simp_all
  |row t sz els g m=>
   obtain⟨b,c,arr,h1,h2,h3,h4,h5,h6,h7,h8,h9⟩:=hx0
   have hm:m=true:=hfx
   simp_all
 have hbC:¬lk E nob b:=by
  rintro(h|⟨l,x,c,h1,h2⟩)
  .exact hbF h
  subst hnob;cases h1
 have hFb:∀b,lk E nob b->b<w.heap.size:=by
  rintro b (h|⟨l,x,c,h1,h2⟩)
  .exact ok.fb b h
  exact(ok.rb l b c h2).1
 have hbs0:=(ok.rb o b c0 hr).1
 have hA:=B5 (a:=a) ok hob hr ha he hlen hn
 have hX:cB (E0 b c0 (lk E nob)) w 200 x0.loc:=by
  have hl:=Ei ok hfx hx0
  have hnoG:∀E2:Env,(∀k,E.F k->E2.F k)->E2.r 200=ς (b,c0)->¬E2.F b->cB E2 w 200 x0.loc:=by
   intro E2 h1 h2 h3
   cases x0 with
   |rown ty sz els g=>exact absurd hfx Y6
   |abs l y=>exact absurd hfx Y6
   |var t cs=>
    obtain⟨b',c',arr,k1,k2,k3,k4⟩:=hl
    rw[hr] at k1;cases k1
    refine⟨b,c0,arr,h2,k2,?_,h3⟩
    have key:∀(cs:List C) (us:Lae),cs.all C.free=ζ->CV E w (cs.map C.loc) us->CV E2 w (cs.map C.loc) us:=by
     intro cs
     induction cs with
     |nil=>
      intro us _ h
      cases us with
      |nil=>trivial
      |cons _ _=>exact h.elim
     |cons c cs ih=>
      intro us hf h
      simp only[Yy,hV] at hf
      cases us with
      |nil=>exact h.elim
      |cons u us=>
       refine⟨?_,ih us hf.2 h.2⟩
       have h5:=h.1
       cases c with
       |d g y=>exact cm (λ_ _=>rfl) h1 _ _ h5
       |nil=>exact h5
       |fn f=>exact h5
       |any=>trivial
       |_=>simp[C.free] at hf
    exact key cs _ hfx k3
   |row t sz els g m=>
    obtain⟨b',c',arr,k1,k2,k3,k4,k5,k6,k7,k8,k9⟩:=hl
    rw[hr] at k1;cases k1
    have hm:m=true:=hfx
    subst hm
    exact⟨b,c0,arr,h2,k2,k3,k4,k5,k6,cf (λ_ _=>rfl) h1 rfl _ _ k7,λ_=>h3,λh=>by cases h⟩
  exact hnoG _ (λk hk=>.inl hk) (by simp[E0]) hbC
 have hc:=hF.calls (lk E nob) w (args.map a.eval).toArray b c0 hFb hbs0 ok.tabs (ok.ntab hr) hX oaa
 have hent:=hF.enters (args.map a.eval).toArray w
 unfold Oper.wp
 have hrun:(execOp a.eval ⟨ς d,.call ⟨.value (.func f),args.toArray,tys⟩,ty,ps,af,gd⟩).run P w= .ok (.enter f (args.map a.eval).toArray) w:=by
  simp only[execOp,resolve,Act.eval,Deferred.ofValue,Sem.run_bind,Sem.run_pure,Result.andThen_ok,invoke]
  simpa using hent
 rw[hrun,Oper.upon_enter]
 refine hc.mono ?_
 rintro e w' ⟨v,G,bs,rfl,hpast,hG2,hres,hnd,hY⟩
 have hbs:=F6 hres
 have hlab:∀l,nx<=l->l<nx+bs.length->E.r l=ξ/\rsv l=false:=by
  have himp:=wm (E:=⟨λo=>bs[o-nx]?,G,G,λ_ _=>False,λ_=>False,λ_=>False⟩) (λ_ h=>h) (λb _ h=>h) hi hres (λi p hi=>by simp_all)
  intro l h1 h2
  obtain⟨x,hx⟩:=himp.2.2.2 l h1 (by rw[himp.2.1];exact h2)
  exact hfr l x hx
 let E':Env:=⟨λl=>if nx<=l/\l<nx+bs.length then bs[l-nx]? else E.r l,λk=>E.F k\/G k,λk=>E.G k\/G k,E.T,E.Z,E.n⟩
 have hsz:=hpast.size
 have hws:=ok.size
 have hold:∀l p,E.r l=ς p->E'.r l=ς p:=λl p h=>by
  grind
 have hnew:∀l b c,E'.r l=ς (b,c)->(nx<=l/\l<nx+bs.length/\bs[l-nx]?=ς (b,c))\/(E.r l=ς (b,c)):=by
  intro l b c h
  have h:(if nx<=l/\l<nx+bs.length then bs[l-nx]? else E.r l)=ς (b,c):=h
  split at h
  .simp_all
  exact .inr h
 have hheap:∀k,k<w.heap.size->k≠b->w'.heap[k]?=w.heap[k]?:=λk hk hne=>hpast.block k hk hne
 have hHb:∀g k,E.H g k->k≠b/\k<w.heap.size:=λg k hk=>⟨λe=>by subst e;cases g;exact hbF hk;exact hbF (ok.gf _ hk),ok.hb hk⟩
 have ok':da cx E' w':=by
  refine⟨λk h=>?_,λk h=>?_,λk h=>?_,λl k c h=>?_,λl l' k c c' h h'=>?_,by rw[hpast.os];exact ok.os,by rw[hpast.tape];exact ok.tape,by rw[hpast.output];exact ok.output,by omega,λk h hW=>?_,λl p hv h=>?_,λk h=>?_,
   λk h h'=>h.elim (λh=>(ok.gc k h h').of_eq (hheap k (hHb η k h).2 (hHb η k h).1)) (λh=>(hG2 k h).2.2),
   ok.sf.turn hr rfl rfl (λk h=>h.elim .inl (λh=>.inr (hG2 k h).1)) (λl k c h=>by
    grind) hsz hheap⟩
  .rcases h with h|h
   .have:=ok.fb k h;omega
   simp_all
  .rcases h with h|h
   .exact .inl (ok.gf k h)
   grind
  .rcases h with h|h
   .exact ok.gn k h
   grind
  .rcases hnew l k c h with⟨_,_,h⟩|h
   .grind
   have:=ok.rb l k c h;grind
  .rcases hnew l k c h with⟨h1,h2,h3⟩|h3<;>rcases hnew l' k c' h' with⟨k1,k2,k3⟩|k3
   .have hi:l-nx<bs.length:=by omega
    have hj:l'-nx<bs.length:=by omega
    rcases Zm (l-nx) (l'-nx) with hlt|heq|hlt
    .exfalso
     have:=YE.1 hnd (l-nx) (l'-nx) (by simp_all) (by simp_all) hlt
     simp_all
    .omega
    exfalso
    have:=YE.1 hnd (l'-nx) (l-nx) (by simp_all) (by simp_all) hlt
    simp_all
   .have h5:=hbs _ (Yd h3);have h6:=ok.rb l' k c' k3;omega
   .have h5:=hbs _ (Yd k3);have h6:=ok.rb l k c h3;omega
   exact ok.inj l l' k c c' h3 k3
  .have hkb:k≠b:=λe=>by
    subst e
    rcases(ok.rb o k c0 hr).2 with h'|h'
    .omega
    simp_all
   rw[hheap k oaa hkb];exact ok.block k h hW
  .rcases hnew l p.1 p.2 h with⟨h1,h2,_⟩|h
   .rw[pk (hlab l h1 h2).2] at hv;cases hv
   exact ok.pin l p hv h
  rcases h with h|h
  .exact ok.ff k h
  grind
 have himp:=wm (E:=E') (G:=G) (base:=w.heap.size) (λb h=>.inr h) (λb hb hng hF=>by
  rcases hF with h|h
  .have:=ok.fb b h;omega
  simp_all) hi hres (λi p hi=>by
   grind)
 refine⟨v,E',rfl,ok',⟨hold,λk h=>.inl h,λk h=>.inl h,λk h=>h.elim .inl (λh=>.inr (hG2 k h).1),λk hk hne=>hheap k hk (λe=>by simp_all),λl ob k c hm hl=>?_,rfl,rfl,rfl⟩,himp.1,λl x hm=>(himp.2.2.1 l x hm).1,λl x hm=>?_,λl p h=>?_⟩
 .grind
 .simp at hm;obtain⟨rfl,rfl⟩:=hm
  refine xK hfy (λk c h=>?_) (λg k h=>?_) (λ_ _ _=>rfl) (λ_ _ _=>rfl) (λk c h hn hh=>?_) hY
  .simp[E1] at h;grind
  .cases g with
   |false=>
    rcases h with h|h
    .rcases h with h|⟨l,x,c,h1,h2⟩
     .exact .inl h
     subst hnob;cases h1
    exact .inr h
   |true=>exact .inr h
  simp[E1] at h;grind
 rcases hnew l p.1 p.2 h with⟨h1,h2,_⟩|h
 .obtain⟨x,hx⟩:=himp.2.2.2 l h1 (by rw[himp.2.1];exact h2);grind
 simp_all
def Ob.hasO(o:Nat):Ob->Bool
 | .var _ cs=>Ac o cs
 | .row _ _ _ _ _=>η
 | .rown _ _ _ _=>η
 | .abs _ _=>η
structure qD(up:Laa)(kl:Option Nat)(E:Env)(w:World)(E':Env)(w':World):Prop where
 r:∀o x,kl≠ς o->E.r o=ς x->E'.r o=ς x
 F:∀b,E.F b->E'.F b
 G:∀b,E.G b->E'.G b
 F':∀b,E'.F b->E.F b\/w.heap.size<=b\/∀l c,kl≠ς l->E.r l≠ς (b,c)
 heap:∀b,b<w.heap.size->(∀l ob c,(l,ob)∈up->E.r l≠ς (b,c))->(∀l c,kl=ς l->E.r l≠ς (b,c))->w'.heap[b]?=w.heap[b]?
 own:∀l ob b c,(l,ob)∈up->E.r l=ς (b,c)->¬E.F b
 ownk:∀l b c,kl=ς l->E.r l=ς (b,c)->¬E.F b
 T:E'.T=E.T
 Z:E'.Z=E.Z
 n:E'.n=E.n
theorem qD.of_extW{up:Laa}(x:MW up E w E' w'):qD up ξ E w E' w':=
 ⟨λo y _ h=>x.r o y h,x.F,x.G,(λb h=>(x.F' b h).elim .inl (λh=>.inr (.inl h))),λb h h' _=>x.heap b h h',x.own,(λ_ _ _ h=>by cases h),x.T,x.Z,x.n⟩
section
variable{cx:Cx}{E E':Env}{w w':World}{up:Laa}{kl:Option Nat}
theorem qD.hF(ok:da cx E w)(x:qD up kl E w E' w')(b:Nat)(h:E.F b):w'.heap[b]?=w.heap[b]?:=
 x.heap b (ok.fb b h) (λl ob c hm hr=>x.own l ob b c hm hr h) (λl c hl hr=>x.ownk l b c hl hr h)
theorem qD.hH(ok:da cx E w)(x:qD up kl E w E' w')(g:Bool)(b:Nat)(h:E.H g b):w'.heap[b]?=w.heap[b]?:=by
 cases g
 .exact x.hF ok b h
 exact x.hF ok b (ok.gf b h)
theorem qD.H(x:qD up kl E w E' w')(g:Bool)(b:Nat)(h:E.H g b):E'.H g b:=by
 cases g
 .exact x.F b h
 exact x.G b h
theorem qD.hT(ok:da cx E w)(x:qD up kl E w E' w')(l b:Nat)(h:E.T l b):E'.T l b/\w'.heap[b]?=w.heap[b]?:=
 ⟨by rw[x.T];exact h,x.heap b (ok.sf.tb l b h).1.1 (λl' ob c _ hr=>(ok.sf.tb l b h).2.2.1 l' c hr) (λl' c _ hr=>(ok.sf.tb l b h).2.2.1 l' c hr)⟩
theorem qD.hZ(ok:da cx E w)(x:qD up kl E w E' w')(b:Nat)(h:E.Z b):E'.Z b/\pM w w' b:=
 ⟨by rw[x.Z];exact h,.of_eq (x.heap b (ok.sf.zb b h).1.2.1 (λl' ob c _ hr=>(ok.sf.zb b h).2.2.1 l' c hr) (λl' c _ hr=>(ok.sf.zb b h).2.2.1 l' c hr))⟩
theorem qD.keeps(ok:da cx E w)(x:qD up ξ E w E' w'):jV E w E' w':=⟨λo y h=>x.r o y (by simp) h,x.H,x.hH ok,x.hT ok,x.hZ ok,x.n⟩
theorem qD.but{o:Nat}(ok:da cx E w)(x:qD up (ς o) E w E' w'):mw o E w E' w':=⟨λl y hl h=>x.r l y (by grind) h,x.H,x.hH ok,x.hT ok,x.hZ ok,λl _=>by rw[x.n]⟩
theorem yf(ok:da cx E w)(x:qD up kl E w E' w'){t:T}(hf:∀o,kl=ς o->t.has o=η)(h:cvT E w t u):cvT E' w' t u:=by
 cases kl with
 |none=>exact jM (x.keeps ok) h
 |some o=>exact E8 (x.but ok) (hf o rfl) h
theorem TB(ok:da cx E w)(x:qD up kl E w E' w'){us:Lae}(hf:∀o,kl=ς o->Ac o cs=η)(h:CV E w cs us):CV E' w' cs us:=by
 cases kl with
 |none=>exact pK (x.keeps ok) h
 |some o=>exact Jf (x.but ok) (hf o rfl) h
theorem Cf(ok:da cx E w)(x:qD up kl E w E' w'){o:Nat}{ob:Ob}(hno:∀ob',(o,ob')∉up)(hk:kl≠ς o)(hh:∀d,kl=ς d->ob.hasO d=η)(h:cB E w o ob):cB E' w' o ob:=by
 have hb:∀b c,E.r o=ς (b,c)->w'.heap[b]?=w.heap[b]?:=λb c hr=>
  x.heap b (ok.rb o b c hr).1 (λl ob' c' hm hr'=>by have:=ok.inj _ _ _ _ _ hr hr';simp_all) (λl c' hl hr'=>by have:=ok.inj _ _ _ _ _ hr hr';simp_all)
 have hF:∀b c,E.r o=ς (b,c)->¬E.F b->¬E'.F b:=λb c hr hn hF=>(x.F' b hF).elim hn (λh=>h.elim (λhb=>by have:=(ok.rb o b c hr).1;omega) (λhb=>hb o c hk hr))
 cases ob with
 |var ty cs=>
  obtain⟨b,c,arr,hr,hh',hc,hf⟩:=h
  exact⟨b,c,arr,x.r _ _ hk hr,(hb b c hr).trans hh',TB ok x hh hc,hF b c hr hf⟩
 |row ty sz els g m=>
  obtain⟨b,c,arr,hr,hh',h1,h2,h3,h4,h5,h6,h7⟩:=h
  exact⟨b,c,arr,x.r _ _ hk hr,(hb b c hr).trans hh',h1,h2,h3,h4,cf (x.hH ok g) (x.H g) (hb b c hr) _ _ h5,λhm=>hF b c hr (h6 hm),λhm=>⟨x.H η b (h7 hm).1,λhg=>x.H ζ b ((h7 hm).2 hg)⟩⟩
 |rown ty sz els g=>
  rcases h with⟨h0,h1⟩|⟨h0,b,c,arr,hr,hh',h1,h2,h3,h4,h5,h6⟩
  .exact .inl ⟨by rw[x.n];exact h0,h1⟩
  exact .inr ⟨by rw[x.n];exact h0,b,c,arr,x.r _ _ hk hr,(hb b c hr).trans hh',h1,h2,h3,h4,cf (x.hH ok g) (x.H g) (hb b c hr) _ _ h5,hF b c hr h6⟩
 |abs l y=>
  rcases h with⟨h0,h1⟩|⟨h0,b,c,hr,h1,h2⟩
  .exact .inl ⟨by rw[x.n];exact h0,h1⟩
  exact .inr ⟨by rw[x.n];exact h0,b,c,x.r _ _ hk hr,y.st _ _ _ _ _ _ h1 (λk hk=>(x.hT ok l k hk).1) (hb b c hr) (λk hk=>(x.hT ok l k hk).2),hF b c hr h2⟩
end
def AWK(P:Program)(o:Oper)(needs:List (Operand×T))(nob:Laa)(out:T)(nw up:Laa)(kl:Option Nat):Prop:=
 ∀(cx:Cx) (E:Env) (a:Act) (w:World),da cx E w->(∀x t,(x,t)∈needs->cvT E w t (a.eval x))->(∀l ob,(l,ob)∈nob->cB E w l ob)->
  (∀l ob,(l,ob)∈nw->E.r l=ξ/\rsv l=η)->
  o.wp P a w (λa' w'=>∃v E',a'=a.put o.dst v/\da cx E' w'/\qD up kl E w E' w'/\cvT E' w' out v/\(∀l ob,(l,ob)∈nw->cB E' w' l ob)/\(∀l ob,(l,ob)∈up->cB E' w' l ob)/\
   (∀l x,E'.r l=ς x->E.r l=ς x\/∃ob,(l,ob)∈nw)) (λ_ _ _=>False)
theorem tp{o:Oper}{needs:List (Operand×T)}{up:Laa}(h:AWX P o needs nob out nw up):AWK P o needs nob out nw up none:=by
 intro cx E a w ok hn hb hf
 refine Oper.wp_mono ?_ (h cx E a w ok hn hb hf)
 rintro a' w' ⟨v,E',h1,h2,h3,h4,h5,h6,h7⟩
 exact⟨v,E',h1,h2,.of_extW h3,h4,h5,h6,h7⟩
def TN(d:Nat)(ob0:Laa)(k:Nat):Bool:=f4 k d||match go ob0 k with
 |some x=>x.hasO d
 |none=>η
def BD(d:Nat)(ob0:Laa):Laa->Option Laa
 |[]=>ς []
 |(k,x)::r=>match BD d ob0 r,TN d ob0 k with
  |some r',ζ=>ς r'
  |some r',η=>ς ((k,x)::r')
  |none,_=>ξ
def yv:List Nat->Lab->Laa->Option (Lab×Laa)
 |[],sl,ob=>ς (sl,ob)
 |d::ds,sl,ob=>match mf d sl,BD d ob ob with
  |some sl',ς ob'=>yv ds sl' ob'
  |_,_=>ξ
theorem BE{d:Nat}{ob0:Laa}:∀{ob ob':Laa},BD d ob0 ob=ς ob'->∀{l:Nat} {x:Ob},go ob' l=ς x->TN d ob0 l=η/\go ob l=ς x
 |[],ob',h,l,x,hl=>by simp[BD] at h;subst h;cases hl
 |(k,y)::r,ob',h,l,x,hl=>by
  simp only[BD] at h
  cases h1:BD d ob0 r with
  |none=>simp_all
  |some r'=>
   cases h2:TN d ob0 k with
   |true=>
    simp[h1,h2] at h;subst h
    have ih:=BE h1 hl
    refine⟨ih.1,?_⟩
    rw[bG _ _ (λe=>by simp_all)];exact ih.2
   |false=>
    simp[h1,h2] at h;subst h
    by_cases hk:k=l
    .subst hk;rw[b9] at hl ⊢;simp_all
    rw[bG _ _ hk] at hl ⊢;exact BE h1 hl
theorem BX:∀{ds:List Nat} {sl sl':Lab} {ob ob':Laa},yv ds sl ob=ς (sl',ob')->
 (∀k,gt sl' k= .any\/(gt sl' k=gt sl k/\∀d∈ds,(gt sl k).has d=η))/\(∀l x,go ob' l=ς x->go ob l=ς x/\∀d∈ds,l≠d/\x.hasO d=η)
 |[],sl,sl',ob,ob',h=>by
  simp[yv] at h;simp_all
 |d::ds,sl,sl',ob,ob',h=>by
  simp only[yv] at h
  cases h1:mf d sl with
  |none=>simp_all
  |some sl1=>
   cases h2:BD d ob ob with
   |none=>simp_all
   |some ob1=>
    simp only[h1,h2] at h
    obtain⟨i1,i2⟩:=BX h
    refine⟨λk=>?_,λl x hl=>?_⟩
    .rcases i1 k with e|⟨e1,e2⟩
     .exact .inl e
     rcases uY h1 k with e|⟨e3,e4⟩
     .simp_all
     simp_all
    obtain⟨e1,e2⟩:=i2 l x hl
    obtain⟨e3,e4⟩:=BE h2 e1
    refine⟨e4,λd' hd'=>?_⟩
    rcases Yh.1 hd' with rfl|hd'
    .simp only[TN,e4,Yp] at e3
     exact⟨iN e3.1,e3.2⟩
    simp_all
structure Inx where
 x:Inf
 up:Laa
 kl:Option Nat
def PJ(N:Nat)(o:Oper)(x:Inf):Prop:=(o.dst=ς x.d/\x.d<N)\/(o.dst=ξ/\N<=x.d/\x.out= .any)
def NX(P:Program)(N:Nat)(o:Oper)(st st':St)(y:Inx):Prop:=
 AWK P o y.x.needs y.x.nob y.x.out y.x.nw y.up y.kl/\PJ N o y.x/\Lk st.sl y.x.needs/\Lo st.ob y.x.nob/\Nw st.nx y.x.nw st'.nx/\st'=⟨(y.x.d,y.x.out)::st.sl,y.x.nw++(y.up++st.ob),st'.nx⟩
theorem H4{o:Oper}{st':St}{x:Inf}(h:NS P N o st st' x):NX P N o st st' ⟨x,[],ξ⟩:=by
 obtain⟨h1,h2,h3,h4,h5,h6,h7⟩:=h
 exact⟨tp (Bn h1),.inl ⟨h2,h3⟩,h4,h5,h6,h7⟩
def DS2(P:Program)(N:Nat)(ops:Array Oper)(o:Oper)(st st':St)(y:Inx):Prop:=
 (o.guard=ξ/\NX P N o st st' y)\/
 (∃j dj b z,o.guard=ς (j,b)/\(ops[j]?).bind (·.dst)=ς dj/\dj<N/\gt st.sl dj=tB b/\NX P N o st st' z/\y=⟨{z.x with needs:=(.tmp dj,tB b)::z.x.needs},z.up,z.kl⟩)\/
 (∃j dj b d,o.guard=ς (j,b)/\(ops[j]?).bind (·.dst)=ς dj/\dj<N/\noG b (gt st.sl dj)=ζ/\o.dst=ς d/\d<N/\y=⟨⟨d,[(.tmp dj,gt st.sl dj)],[],.tup [],[]⟩,[],ξ⟩/\st'=⟨(d,.tup [])::st.sl,st.ob,st.nx⟩)
def obF(p:Nat->Bool):Nat->List Inx->Laa->Laa
 |_,[],acc=>acc
 |k,y::ys,acc=>obF p (k+1) ys (if p k then y.x.nw++(y.up++acc) else acc)
def oT(y:Inx)(l:Nat):Bool:=(y.x.nw.any λp=>f4 p.1 l)||(y.up.any λp=>f4 p.1 l)
theorem yq{A B:Laa}(h:(A.any λp=>f4 p.1 l)=η):go (A++B) l=go B l:=by
 induction A with
 |nil=>rfl
 |cons p A ih=>
  simp only[List.any_cons,Yp] at h
  obtain⟨k,v⟩:=p
  rw[Yv,go,h.1]
  exact ih h.2
theorem wk{A B:Laa}(h:(A.any λp=>f4 p.1 l)=ζ):go (A++B) l=go A l:=by
 induction A with
 |nil=>simp at h
 |cons p A ih=>
  obtain⟨k,v⟩:=p
  rw[Yv,go,go]
  grind
theorem pG{p q:Nat->Bool}{l:Nat}:∀{ys:List Inx} {k:Nat} {A B:Laa},go A l=go B l->(∀j y,ys[j]?=ς y->oT y l=ζ->p (k+j)=q (k+j))->go (obF p k ys A) l=go (obF q k ys B) l
 |[],_,_,_,h,_=>h
 |y::ys,k,A,B,h,ht=>by
  simp only[obF]
  refine pG ?_ (λj z hz hj=>by have:=ht (j+1) z (by simp_all) hj;grind)
  cases hto:oT y l with
  |true=>
   have h0:=ht 0 y rfl hto
   rw[YN] at h0
   rw[h0]
   split
   .by_cases hn:(y.x.nw.any λp=>f4 p.1 l)=ζ
    .rw[wk hn,wk hn]
    rw[yq (A:=y.x.nw) (Zc.2 hn),yq (A:=y.x.nw) (Zc.2 hn)]
    have hu:(y.up.any λp=>f4 p.1 l)=true:=by simp only[oT,Yw] at hto;exact hto.resolve_left hn
    rw[wk hu,wk hu]
   exact h
  |false=>
   simp only[oT,Yp] at hto
   have e:∀X:Laa,go (y.x.nw++(y.up++X)) l=go X l:=λX=>by rw[yq hto.1,yq hto.2]
   split<;>split<;>(simp_all)<;>exact h
theorem Ca{p:Nat->Bool}{y:Inx}:∀{ys:List Inx} {k:Nat} {A:Laa},obF p k (ys++[y]) A=if p (k+ys.length) then y.x.nw++(y.up++obF p k ys A) else obF p k ys A
 |[],k,A=>by simp[obF]
 |z::ys,k,A=>by
  simp only[Yv,obF,Yg]
  rw[Ca,show k+1+ys.length=k+(ys.length+1) from by omega]
theorem vb{p:Nat->Bool}:∀{ys:List Inx} {k n:Nat} {A:Laa},(∀j,p (k+j)=decide (j<n))->obF p k ys A=obF (λ_=>ζ) k (ys.take n) A
 |[],k,n,A,_=>by simp[obF]
 |y::ys,k,0,A,h=>by
  have h0:=h 0
  simp at h0
  simp only[obF,List.take_zero,h0]
  have:=vb (p:=p) (ys:=ys) (k:=k+1) (n:=0) (A:=A) (λj=>by have:=h (j+1);grind)
  simpa [obF] using this
 |y::ys,k,n+1,A,h=>by
  have h0:=h 0
  simp at h0
  simp only[obF,YH,h0,if_true]
  exact vb (λj=>by grind)
def obX(base:St)(ys:List Inx):Laa:=obF (λ_=>ζ) 0 ys base.ob
theorem Ra(base:St)(ys:List Inx)(y:Inx):obX base (ys++[y])=y.x.nw++(y.up++obX base ys):=by simp[obX,Ca]
def gq(ys:List Inx):List Inf:=ys.map (·.x)
def O2(P:Program)(N:Nat)(ops:Array Oper)(base:St)(pre:List Inx)(o:Oper)(y:Inx):Prop:=
 (∀z t,(z,t)∈y.x.needs->opT (s9 base (gq pre)) z=t)/\(∀l ob,(l,ob)∈y.x.nob->go (obX base pre) l=ς ob)/\PJ N o y.x/\
 ((o.guard=ξ/\AWK P o y.x.needs y.x.nob y.x.out y.x.nw y.up y.kl)\/
  (∃j dj b ys,o.guard=ς (j,b)/\(ops[j]?).bind (·.dst)=ς dj/\dj<N/\y.x.needs=(.tmp dj,tB b)::ys/\AWK P o ys y.x.nob y.x.out y.x.nw y.up y.kl)\/
  (∃j dj b t,o.guard=ς (j,b)/\(ops[j]?).bind (·.dst)=ς dj/\dj<N/\y.x.needs=[(.tmp dj,t)]/\noG b t=ζ/\y.x.out= .tup []/\y.x.nw=[]/\y.up=[]/\y.kl=ξ))
theorem OD{ops:Array Oper}{base st1:St}{ys:List Inx}{o:Oper}{y:Inx}(hds:DS2 P N ops o st st1 y)(hsame:rJ st1 st2)(h1:∀k,gt st.sl k=gt (s9 base (gq ys)) k)(h2:st.ob=obX base ys)(h3:eU base.nx (gq ys) st.nx):
 O2 P N ops base ys o y/\(∀k,gt st2.sl k=gt (s9 base (gq (ys++[y]))) k)/\st2.ob=obX base (ys++[y])/\eU base.nx (gq (ys++[y])) st2.nx:=by
 have hput:∀(out:T) (nw up:Laa) (n:Nat),y.x.out=out->y.x.nw=nw->y.up=up->st1=⟨(y.x.d,out)::st.sl,nw++(up++st.ob),n⟩->Nw st.nx nw n->(∀k,gt st2.sl k=gt (s9 base (gq (ys++[y]))) k)/\st2.ob=obX base (ys++[y])/\eU base.nx (gq (ys++[y])) st2.nx:=by
  rintro out nw up n rfl rfl rfl rfl hnw
  refine⟨λk=>?_,?_,?_⟩
  .rw[<-hsame.1 k];simp only[gq,Y8,Yq,Y7];rw[wH]
   by_cases hk:y.x.d=k
   .rw[hk,cW,cW]
   rw[cy _ _ hk,cy _ _ hk];exact h1 k
  .rw[<-hsame.2.1,Ra,h2]
  rw[<-hsame.2.2];simp only[gq,Y8,Yq,Y7];exact h3.snoc hnw
 rcases hds with⟨hg,k1,k2,k4,k5,k6,k7⟩|⟨j,dj,b,z,hg,hj,hdj,hb,⟨k1,k2,k4,k5,k6,k7⟩,rfl⟩|⟨j,dj,b,d,hg,hj,hdj,hb,hd,hN,rfl,rfl⟩
 .exact⟨⟨λz t hm=>by rw[<-qa h1];exact Lk.mem k4 z t hm,λl' ob hm=>by rw[<-h2];exact Lo.mem k5 l' ob hm,k2,.inl ⟨hg,k1⟩⟩,hput _ _ _ _ rfl rfl rfl k7 k6⟩
 .refine⟨⟨λy' t hm=>?_,λl' ob hm=>by rw[<-h2];exact Lo.mem k5 l' ob hm,k2,.inr (.inl ⟨j,dj,b,z.x.needs,hg,hj,hdj,rfl,k1⟩)⟩,hput _ _ _ _ rfl rfl rfl k7 k6⟩
  rw[<-qa h1]
  rcases Yh.1 hm with e|hm
  .cases e;exact hb
  exact Lk.mem k4 y' t hm
 refine⟨⟨λy' t hm=>?_,by simp,.inl ⟨hd,hN⟩,.inr (.inr ⟨j,dj,b,_,hg,hj,hdj,rfl,hb,rfl,rfl,rfl,rfl⟩)⟩,hput (.tup []) [] [] st.nx rfl rfl rfl rfl rfl⟩
 rw[<-qa h1]
 simp at hm;obtain⟨rfl,rfl⟩:=hm;rfl
def rQ(y:Inx):List Nat:=y.x.nob.map (·.1)++(y.x.nw.map (·.1)++y.up.map (·.1))
def AG(ops:Array Oper):Bool:=
 (v0 ops.size).all λi=>match ops[i]? with
  |some o=>o.after.toList.all λe=>!Region.binds .any e||nlt e.on i
  |none=>η
def iH(l:List Nat)(n:Nat):Bool:=l.any λk=>f4 k n
def at0(seg:List Nat)(j:Nat):Nat:=seg.getD j 0
def z0(y:Inx)(d:Nat):Bool:=(y.x.needs.any λp=>p.2.has d)||iH (rQ y) d||(y.x.nob.any λp=>p.2.hasO d)
def Wy(ops:Array Oper)(seg:List Nat)(ys:List Inx):Bool:=
 (v0 ys.length).all λj=>match ys[j]? with
  |some z=>match z.kl with
   |none=>ζ
   |some d=>(v0 ys.length).all λi=>match ys[i]? with
    |some y=>f4 i j||!z0 y d||anc ops ops.size (at0 seg j) (at0 seg i)
    |none=>η
  |none=>η
def vw(ops:Array Oper)(done seg:List Nat)(ys:List Inx):Bool:=
 pS (gq ys)&&f4 seg.length ys.length&&lM (seg++done)&&(seg.all λi=>nlt i ops.size)&&
 ((v0 ys.length).all λi=>match ys[i]? with
  |some y=>
   ((iS y.x.needs).all λk=>match rY (gq ys) k with
    |none=>ζ
    |some j=>if nlt j i then anc ops ops.size (at0 seg i) (at0 seg j) else f4 i j||anc ops ops.size (at0 seg j) (at0 seg i))&&
   ((rQ y).all λl=>(v0 ys.length).all λj=>match ys[j]? with
    |some z=>!oT z l||(if nlt j i then anc ops ops.size (at0 seg i) (at0 seg j) else f4 i j||anc ops ops.size (at0 seg j) (at0 seg i))
    |none=>η)
  |none=>η)&&
 ((v0 ops.size).all λj=>iH done j||iH seg j||seg.all λi=>anc ops ops.size j i)&&Wy ops seg ys
def C9(f:Nat->Nat)(ys:List Inx)(listed:Array Bool)(d:Nat):Prop:=∃j y,listed.getD (f j) η=ζ/\ys[j]?=ς y/\y.kl=ς d
structure MX(N:Nat)(cx:Cx)(base:St)(f:Nat->Nat)(ys:List Inx)(listed:Array Bool)(a:Act)(w:World)(E:Env):Prop where
 ok:da cx E w
 dom:∀l x,E.r l=ς x->l<base.nx\/∃j y ob,listed.getD (f j) η=ζ/\ys[j]?=ς y/\(l,ob)∈y.x.nw
 obs:∀l ob,go (obF (λj=>listed.getD (f j) η) 0 ys base.ob) l=ς ob->(∀d,C9 f ys listed d->l≠d/\ob.hasO d=η)->cB E w l ob
 out:∀j y,listed.getD (f j) η=ζ->ys[j]?=ς y->(∀d,C9 f ys listed d->y.x.out.has d=η)->cvT E w y.x.out (a.tmps.getD y.x.d undef)
 old:∀k,(∀j y,listed.getD (f j) η=ζ->ys[j]?=ς y->y.x.d≠k)->(∀d,C9 f ys listed d->(gt base.sl k).has d=η)->cvT E w (gt base.sl k) (a.tmps.getD k undef)
 dfr:a.defers=[]
 size:a.tmps.size=N
 td:∀l b,E.T l b->l<base.nx
theorem Nx{y:Inx}(h:oT y l=ζ){X:Laa}{ob:Ob}(hg:go (y.x.nw++(y.up++X)) l=ς ob):(l,ob)∈y.x.nw\/(l,ob)∈y.up:=by
 by_cases hn:(y.x.nw.any λp=>f4 p.1 l)=ζ
 .rw[wk hn] at hg;exact .inl (uR hg)
 have hu:(y.up.any λp=>f4 p.1 l)=true:=by simp only[oT,Yw] at h;exact h.resolve_left hn
 rw[yq (Zc.2 hn),wk hu] at hg;exact .inr (uR hg)
theorem Sy{y:Inx}{ob:Ob}(h:(l,ob)∈y.up):oT y l=true:=by
 simp only[oT,Yw,YF]
 exact .inr ⟨(l,ob),h,by simp⟩
theorem KC{y:Inx}(h:oT y l=ζ):l∈rQ y:=by
 simp only[oT,Yw,YF] at h
 simp only[rQ,Ye,Y3]
 simp_all
section
variable{P:Program}{N:Nat}{cx:Cx}{ops:Array Oper}{base:St}{f:Nat->Nat}{ys:List Inx}{Q:Exit->Act->World->Prop}
def unl(ops:Array Oper)(listed:Array Bool):Nat:=((v0 ops.size).filter λi=>!listed.getD i η).length
def uG(ops:Array Oper)(listed:Array Bool):Prop:=∀i o,ops[i]?=ς o->listed.getD i η=ζ->∀e∈o.after,Region.binds .any e=ζ->listed.getD e.on η=ζ
theorem qz(hsz:listed.size=ops.size)(hio:i<ops.size)(hun:listed.getD i η=η):unl ops listed=unl ops (listed.setIfInBounds i ζ)+1:=by
 have hcount:∀(l:List Nat),l.Nodup->i∈l->(l.filter λk=>!listed.getD k η).length=(l.filter λk=>!(listed.setIfInBounds i ζ).getD k η).length+1:=by
  intro l
  induction l with
  |nil=>simp_all
  |cons k l ihl=>
   intro hnd hm
   obtain⟨hk1,hk2⟩:=YT.1 hnd
   by_cases hki:i=k
   .subst hki
    have hsame:(l.filter λk=>!listed.getD k η)=(l.filter λk=>!(listed.setIfInBounds i ζ).getD k η):=by
     apply Zr
     intro z hz
     rw[cF oaa,if_neg (λe=>hk1 (by simp_all))]
    simp_all
   have hml:i∈l:=by rcases Yh.1 hm with e|e;exact absurd e hki;exact e
   have:=ihl hk2 hml
   have hgk:(listed.setIfInBounds i ζ).getD k η=listed.getD k false:=by rw[cF oaa,if_neg hki]
   grind
 exact hcount (v0 ops.size) Zs (by simp_all)
theorem uM{o:Oper}(hsz:listed.size=ops.size)(hio:i<ops.size)(ho:ops[i]?=ς o)(hd:∀e∈o.after,Region.binds .any e=ζ->listed.getD e.on η=ζ)(hcl:uG ops listed):uG ops (listed.setIfInBounds i ζ):=by
 intro j oj hj hdj e he hb
 rw[cF oaa]
 split
 .rfl
 rw[cF oaa] at hdj
 split at hdj
 .simp_all
 exact hcl j oj hj hdj e he hb
def Edg(ops:Array Oper)(rk:Nat->Nat):Prop:=∀i o,ops[i]?=ς o->∀e∈o.after,Region.binds .any e=ζ->e.on<ops.size/\rk e.on<rk i
theorem PO{ops:Array Oper}(hedge:∀i o,ops[i]?=ς o->∀e∈o.after,Region.binds .any e=ζ->e.on<i):Edg ops (λi=>i):=λi o ho e he hb=>by
 grind
theorem Ce{rk:Nat->Nat}(hedge:Edg ops rk)(hsz:listed.size=ops.size)(hc:unl ops listed=n+1):Region.ready .any ops listed≠[]:=by
 intro h0
 have hex:∃i,i<ops.size/\listed.getD i η=false:=by
  have:((v0 ops.size).filter λi=>!listed.getD i η)≠[]:=λe=>by unfold unl at hc;grind
  obtain⟨i,hi⟩:=Zp _ this
  simp only[List.mem_filter,List.mem_range,Yz] at hi
  exact⟨i,hi.1,hi.2⟩
 have hmin:∀n i,rk i<=n->i<ops.size->listed.getD i η=η->∃i,i∈Region.ready .any ops listed:=by
  intro n
  induction n using Nat.strongRecOn with
  |_ n ihn=>
   intro i hin his hif
   by_cases hd:∀e∈ops[i].after,Region.binds .any e=ζ->listed.getD e.on η=ζ
   .refine⟨i,mem_ready.2 ⟨?_,ops[i],YC his,hd⟩⟩
    simp_all
   simp only[Classical.not_forall] at hd
   obtain⟨e,he,hb,hne⟩:=hd
   have hlt:=hedge i ops[i] (YC his) e he hb
   exact ihn (rk e.on) oaa e.on (Yj _) hlt.1 (by simp_all)
 obtain⟨i,h1,h2⟩:=hex
 obtain⟨j,hj⟩:=hmin (rk i) i (Yj _) h1 h2
 simp_all
theorem lp(hsz:listed.size=ops.size)(hi:i∈Region.ready .any ops listed):i<ops.size/\listed.getD i η=η/\∃o,ops[i]?=ς o/\∀e∈o.after,Region.binds .any e=ζ->listed.getD e.on η=true:=by
 obtain⟨h1,o,ho,hd⟩:=mem_ready.1 hi
 grind
theorem xq(hcl:uG ops listed)(h:anc ops n i j=ζ)(hi:∃o,ops[i]?=ς o/\∀e∈o.after,Region.binds .any e=ζ->listed.getD e.on η=ζ):listed.getD j η=true:=pO hcl n i j h hi
theorem GT(hsz:listed.size=ops.size)(hcl:uG ops listed)(h:anc ops n i j=ζ)(hi:listed.getD i η=ζ):listed.getD j η=true:=by
 have his:i<ops.size:=by
  rcases Yx i ops.size with h|h
  .exact h
  simp_all
 exact pO hcl n i j h ⟨ops[i],YC his,hcl i _ (YC his) hi⟩
theorem L2{o:Oper}{x:Inf}(h:PJ N o x)(hs:a.tmps.size=N)(v:Value):a.put o.dst v=a.put (ς x.d) v:=by
 rcases h with⟨h,_⟩|⟨h,h2,_⟩
 .rw[h]
 rw[h]
 show a=a.put (ς x.d) v
 unfold Act.put
 simp only
 rw[show a.tmps.setIfInBounds x.d v=a.tmps from Array.setIfInBounds_eq_of_size_le oaa]
theorem Hv{d:Nat}{v:Value}(h:a.tmps.size<=d):(a.put (ς d) v).tmps.getD k undef=a.tmps.getD k undef:=by
 unfold Act.put
 grind
theorem Nt(hI:MX N cx base f ys listed a w E)(hdst:pS (gq ys)=ζ){y:Inx}(hx:ys[i]?=ς y)(hil:f i<listed.size)(hinj:∀j,j<ys.length->f i=f j->i=j)(hun:listed.getD (f i) η=η)(hdN:y.x.d<N\/(N<=y.x.d/\y.x.out= .any))(hord:∀l,oT y l=ζ->∀j z,ys[j]?=ς z->oT z l=ζ->listed.getD (f j) η=decide (j<i)){v:Value}(ok':da cx E' w')(ext:qD y.up y.kl E w E' w')(hv:cvT E' w' y.x.out v)(hnw:∀l ob,(l,ob)∈y.x.nw->cB E' w' l ob)(hup:∀l ob,(l,ob)∈y.up->cB E' w' l ob)(hdom:∀l x,E'.r l=ς x->E.r l=ς x\/∃ob,(l,ob)∈y.x.nw):MX N cx base f ys (listed.setIfInBounds (f i) ζ) (a.put (ς y.x.d) v) w' E':=by
 have hD:∀d,C9 f ys listed d->C9 f ys (listed.setIfInBounds (f i) ζ) d:=λd ⟨j,z,h1,h2,h3⟩=>⟨j,z,by
  rw[cF hil];simp_all,h2,h3⟩
 have hDi:∀d,y.kl=ς d->C9 f ys (listed.setIfInBounds (f i) ζ) d:=λd h=>⟨i,y,by simp_all,hx,h⟩
 have hgx:∀(j:Nat) (z:Inx),ys[j]?=ς z->(gq ys)[j]?=ς z.x:=λj z h=>by simp[gq,h]
 have hd':∀j z,ys[j]?=ς z->j≠i->z.x.d≠y.x.d:=λj z hj hne he=>hne (pT hdst j i z.x y.x (hgx j z hj) (hgx i y hx) he)
 have hlt:i<ys.length:=(Yc.1 hx).1
 refine⟨ok',λl p hl=>?_,λl ob hl hdd=>?_,λj z hj hz hdd=>?_,λk hkk hdd=>?_,hI.dfr,by simpa [Act.put] using hI.size,λl b h=>hI.td l b (by rw[<-ext.T];exact h)⟩
 .rcases hdom l p hl with h|⟨ob,h⟩
  .rcases hI.dom l p h with h|⟨j,z,ob,h1,h2,h3⟩
   .exact .inl h
   refine .inr ⟨j,z,ob,?_,h2,h3⟩
   rw[cF hil];simp_all
  exact .inr ⟨i,y,ob,by simp_all,hx,h⟩
 .cases hto:oT y l with
  |true=>
   rw[pG (q:=λj=>decide (j<i+1)) (B:=base.ob) rfl (λj z hz hj=>by
    simp only[Yl]
    rw[cF hil]
    grind),vb (n:=i+1) (λj=>by simp),List.take_add_one,hx] at hl
   simp only[Option.toList_some] at hl
   rw[Ca,if_pos rfl] at hl
   rcases Nx hto hl with h|h
   .simp_all
   simp_all
  |false=>
   rw[pG (q:=λj=>listed.getD (f j) η) (B:=base.ob) rfl (λj z hz hj=>by
    simp only[Yl]
    rw[cF hil,if_neg]
    grind)] at hl
   refine Cf hI.ok ext (λob' hm=>?_) (λe=>(hdd l (hDi l e)).1 rfl) (λd hd=>(hdd d (hDi d hd)).2) (hI.obs l ob hl (λd hd=>hdd d (hD d hd)))
   rw[Sy hm] at hto;cases hto
 .by_cases hji:i=j
  .subst hji;rw[hx] at hz;cases hz
   rcases hdN with hdN|⟨_,ho⟩
   .rw[gu (by rw[hI.size];exact hdN),if_pos rfl];exact hv
   rw[ho];trivial
  rw[cF hil,if_neg (λe=>hji (hinj j (Yc.1 hz).1 e))] at hj
  rcases hdN with hdN|⟨hdN,_⟩
  .rw[gu (by rw[hI.size];exact hdN),if_neg (Ne.symm (hd' j z hz (Ne.symm hji)))]
   exact yf hI.ok ext (λd hd=>hdd d (hDi d hd)) (hI.out j z hj hz (λd hd=>hdd d (hD d hd)))
  rw[Hv (by rw[hI.size];exact hdN)]
  exact yf hI.ok ext (λd hd=>hdd d (hDi d hd)) (hI.out j z hj hz (λd hd=>hdd d (hD d hd)))
 have hxk:y.x.d≠k:=hkk i y (by simp_all) hx
 have hpp:(a.put (ς y.x.d) v).tmps.getD k undef=a.tmps.getD k undef:=by
  rcases hdN with hdN|⟨hdN,_⟩
  .rw[gu (by rw[hI.size];exact hdN),if_neg hxk]
  exact Hv (by rw[hI.size];exact hdN)
 rw[hpp]
 refine yf hI.ok ext (λd hd=>hdd d (hDi d hd)) (hI.old k (λj z hj hz=>hkk j z ?_ hz) (λd hd=>hdd d (hD d hd)))
 rw[cF hil];simp_all
theorem EE{done:Nat->Bool}{rk:Nat->Nat}(hedge:Edg ops rk)(hhi:∀i,i<ys.length->f i<ops.size)(hinj:∀i j,i<ys.length->j<ys.length->f i=f j->i=j)(hdis:∀i,i<ys.length->done (f i)=η){nmax:Nat}(hlab:eU base.nx (gq ys) nmax)(hdst:pS (gq ys)=ζ)(hslot:∀i y,ys[i]?=ς y->∀k∈iS y.x.needs,∀j,rY (gq ys) k=ς j->if nlt j i then anc ops ops.size (f i) (f j)=ζ else(i=j\/anc ops ops.size (f j) (f i)=ζ))(hobj:∀i y,ys[i]?=ς y->∀l∈rQ y,∀j z,ys[j]?=ς z->oT z l=ζ->if nlt j i then anc ops ops.size (f i) (f j)=ζ else(i=j\/anc ops ops.size (f j) (f i)=ζ))(hkill:∀j z d,ys[j]?=ς z->z.kl=ς d->∀i y,ys[i]?=ς y->i≠j->z0 y d=ζ->anc ops ops.size (f j) (f i)=ζ)(htail:∀j,j<ops.size->done j=η->(∀i,i<ys.length->f i≠j)->∀i,i<ys.length->anc ops ops.size j (f i)=ζ)(htold:∀(i:Nat) (o:Oper) (y:Inx),ops[f i]?=ς o->ys[i]?=ς y->O2 P N ops base (ys.take i) o y)(hfin:∀(listed:Array Bool) a w E,listed.size=ops.size->uG ops listed->(∀j,done j=ζ->listed.getD j η=ζ)->(∀i,i<ys.length->listed.getD (f i) η=ζ)->(∀j,done j=η->(∀i,i<ys.length->f i≠j)->listed.getD j η=η)->MX N cx base f ys listed a w E->wpAny P .any ops Q (unl ops listed) listed a w):
 ∀(m:Nat) (listed:Array Bool) (a:Act) (w:World) (E:Env),((v0 ys.length).filter λi=>!listed.getD (f i) η).length=m->listed.size=ops.size->uG ops listed->
  (∀j,done j=ζ->listed.getD j η=ζ)->(∀j,done j=η->(∀i,i<ys.length->f i≠j)->listed.getD j η=η)->MX N cx base f ys listed a w E->wpAny P .any ops Q (unl ops listed) listed a w:=by
 intro m
 induction m with
 |zero=>
  intro listed a w E hm hsz hcl hpre hpost hI
  refine hfin listed a w E hsz hcl hpre (λi hi=>?_) hpost hI
  have:=Zq.1 (YD hm) i (by grind)
  grind
 |succ m ih=>
  intro listed a w E hm hsz hcl hpre hpost hI
  obtain⟨i0,hi0,hu0⟩:∃i,i<ys.length/\listed.getD (f i) η=false:=by
   have:((v0 ys.length).filter λi=>!listed.getD (f i) η)≠[]:=λe=>by grind
   obtain⟨i,hi⟩:=Zp _ this
   grind
  have hus:=qz (ops:=ops) hsz (hhi i0 hi0) hu0
  rw[hus]
  refine⟨λh0=>absurd h0 (Ce hedge hsz hus),λp hp=>?_⟩
  obtain⟨hio,hun,o,ho,hd⟩:=lp hsz hp
  have hdp:done p=false:=by
   cases h:done p with
   |false=>rfl
   |true=>grind
  obtain⟨i,hil,rfl⟩:∃i,i<ys.length/\p=f i:=by
   apply Classical.byContradiction
   intro hno
   have hno':∀i,i<ys.length->f i≠p:=λi hi e=>hno ⟨i,hi,e.symm⟩
   have:=xq hcl (htail p hio hdp hno' i0 hi0) ⟨o,ho,hd⟩
   grind
  obtain⟨y,hx⟩:∃y,ys[i]?=ς y:=⟨_,Yb hil⟩
  have hus':unl ops (listed.setIfInBounds (f i0) ζ)=unl ops (listed.setIfInBounds (f i) ζ):=by
   have:=qz (ops:=ops) hsz hio hun;omega
  rw[hus']
  obtain⟨t1,t2,t3,t5⟩:=htold i o y ho hx
  have t4:y.x.d<N\/(N<=y.x.d/\y.x.out= .any):=t3.imp (·.2) (·.2)
  have hanc:∀j,anc ops ops.size (f i) (f j)=ζ->listed.getD (f j) η=true:=λj h=>xq hcl h ⟨o,ho,hd⟩
  have hanc':∀j,anc ops ops.size (f j) (f i)=ζ->listed.getD (f j) η=false:=λj h=>by
   cases hj:listed.getD (f j) η with
   |false=>rfl
   |true=>rw[GT hsz hcl h hj] at hun;cases hun
  have hord:∀l∈rQ y,∀j z,ys[j]?=ς z->oT z l=ζ->listed.getD (f j) η=decide (j<i):=by
   intro l hl j z hz hj
   have:=hobj i y hx l hl j z hz hj
   by_cases hji:j<i
   .rw[if_pos (by simp[nlt];omega)] at this
    grind
   rw[if_neg (by simp[nlt];omega)] at this
   grind
  have hsp:∀d,C9 f ys listed d->z0 y d=false:=λd ⟨j,z,h1,h2,h3⟩=>by
   grind
  have hneeds:∀z t,(z,t)∈y.x.needs->cvT E w t (a.eval z):=by
   intro z t hm
   have hnt:∀d,C9 f ys listed d->t.has d=false:=λd hd=>by
    have:=hsp d hd
    simp only[z0,Yp] at this
    grind
   have ht:=t1 z t hm
   cases z with
   |tmp k=>
    have hks:k∈iS y.x.needs:=by
     have key:∀(l:List (Operand×T)),(Operand.tmp k,t)∈l->k∈iS l:=by
      intro l
      induction l with
      |nil=>grind
      |cons p r ihl=>
       intro h
       rcases Yh.1 h with e|h
       .rw[<-e];simp[iS]
       have h9:=ihl h;obtain⟨z,u⟩:=p;cases z<;>simp[iS,h9]
     exact key _ hm
    show cvT E w t (a.tmps.getD k undef)
    have ht':gt (s9 base (gq (ys.take i))) k=t:=ht
    have hit:gq (ys.take i)=(gq ys).take i:=by simp[gq,Zk]
    rw[hit] at ht'
    have hgx:∀(j:Nat) (z:Inf),(gq ys)[j]?=ς z->∃y',ys[j]?=ς y'/\y'.x=z:=λj z h=>by
     simp only[gq,List.getElem?_map,Option.map_eq_some_iff] at h;exact h
    cases hw:rY (gq ys) k with
    |none=>
     have hno:∀z∈gq ys,z.d≠k:=by
      intro z hz e
      have:=YU.1 hw z hz
      rw[e] at this;simp at this
     rw[wG _ _ (λz hz=>hno z (YG hz))] at ht'
     rw[<-ht']
     exact hI.old k (λj y' _ hy=>hno y'.x (Y3.2 ⟨y',Yd hy,rfl⟩)) (λd hd=>by grind)
    |some j=>
     have hs:=hslot i y hx k hks j hw
     obtain⟨hjl,hjp,_⟩:=YR.1 hw
     have hjd:(gq ys)[j].d=k:=Yf hjp
     obtain⟨yj,hyj,hyx⟩:=hgx j _ (Yb hjl)
     have hju:∀j' z,(gq ys)[j']?=ς z->z.d=k->j'=j:=λj' z hy he=>pT hdst j' j z (gq ys)[j] hy (Yb hjl) (by rw[he,hjd])
     by_cases hji:j<i
     .rw[if_pos (by simp[nlt];omega)] at hs
      have hdone:=hanc j hs
      have h9:=ue (base:=base) ((gq ys).take i) j (gq ys)[j] (by rw[YK,if_pos hji];exact Yb hjl) (λj' z hy he=>hju j' z (by rw[YK] at hy;split at hy;exact hy;cases hy) (by rw[he,hjd]))
      rw[hjd] at h9
      have:=hI.out j yj hdone hyj (λd hd=>by rw[hyx,<-h9,ht'];exact hnt d hd)
      rw[hyx,hjd] at this
      grind
     rw[if_neg (by simp[nlt];omega)] at hs
     rw[wG _ _ (λz hz e=>by
      obtain⟨j',hj'⟩:=Yn hz
      rw[YK] at hj'
      split at hj'
      .rename_i hlt;have:=hju j' z hj' e;omega
      cases hj')] at ht'
     rw[<-ht']
     refine hI.old k (λj' y' hj' hy he=>?_) (λd hd=>by rw[ht'];exact hnt d hd)
     have hjj:=hju j' y'.x (by simp[gq,hy]) he
     subst hjj
     rcases hs with rfl|hs
     .grind
     rw[hanc' j' hs] at hj';cases hj'
   |const v=>have:=(show Rel N cx E ⟨[],[],base.nx⟩ a w->cvT E w (opT [] (.const v)) (a.eval (.const v)) from λh=>h.op _);rw[<-ht];cases v<;>simp only[opT,Act.eval,cvT,cvV]<;>first|exact vZ E w _|exact⟨_,rfl,rZ E w _⟩|(simp only[cvC,rdD])
   |func f=>rw[<-ht];rfl
   |global g=>rw[<-ht];trivial
  have hnob:∀l ob,(l,ob)∈y.x.nob->cB E w l ob:=by
   intro l ob hm
   have hgo:=t2 l ob hm
   refine hI.obs l ob ?_ (λd hd=>by
    have:=hsp d hd
    simp only[z0,Yp] at this
    refine⟨λe=>?_,by grind⟩
    subst e
    have h9:iH (rQ y) l=true:=YF.2 ⟨l,by simp only[rQ,Ye,Y3];grind,by simp⟩
    grind)
   rw[<-hgo,obX,<-vb (p:=λj=>decide (j<i)) (k:=0) (n:=i) (λj=>by simp)]
   refine pG rfl (λj z hz hj=>?_)
   rw[Yl]
   exact hord l (by simp only[rQ,Ye,Y3];grind) j z hz hj
  have hgi:(gq ys)[i]?=ς y.x:=by simp[gq,hx]
  have hfresh:∀l ob,(l,ob)∈y.x.nw->E.r l=none:=by
   intro l ob hm
   cases hr:E.r l with
   |none=>rfl
   |some p=>
    have hlr:=(ku hlab).2 i y.x l ob hgi hm
    rcases hI.dom l p hr with h|⟨j,z,ob',h1,h2,h3⟩
    .omega
    have:=(wu hlab i j y.x z.x l ob ob' hgi (by simp[gq,h2]) hm h3).1
    grind
  have hnext:∀v E' w',da cx E' w'->qD y.up y.kl E w E' w'->cvT E' w' y.x.out v->(∀l ob,(l,ob)∈y.x.nw->cB E' w' l ob)->(∀l ob,(l,ob)∈y.up->cB E' w' l ob)->(∀l x,E'.r l=ς x->E.r l=ς x\/∃ob,(l,ob)∈y.x.nw)->
   wpAny P .any ops Q (unl ops (listed.setIfInBounds (f i) ζ)) (listed.setIfInBounds (f i) ζ) (a.put (ς y.x.d) v) w':=by
   intro v E' w' k1 k2 k3 k4 k4' k5
   refine ih _ _ _ E' ?_ (by grind) (uM hsz hio ho hd hcl) (λj hj=>?_) (λj hj hj'=>?_) (Nt hI hdst hx oaa (λj hj e=>hinj i j hil hj e) hun t4 (λl hl=>hord l (KC hl)) k1 k2 k3 k4 k4' k5)
   .have hcount:∀(l:List Nat),l.Nodup->(∀k∈l,k<ys.length)->i∈l->(l.filter λk=>!listed.getD (f k) η).length=(l.filter λk=>!(listed.setIfInBounds (f i) ζ).getD (f k) η).length+1:=by
     intro l
     induction l with
     |nil=>grind
     |cons k l ihl=>
      intro hnd hbd hm
      obtain⟨hk1,hk2⟩:=YT.1 hnd
      by_cases hki:i=k
      .subst hki
       have hsame:(l.filter λk=>!listed.getD (f k) η)=(l.filter λk=>!(listed.setIfInBounds (f i) ζ).getD (f k) η):=by
        apply Zr
        intro z hz
        rw[cF oaa,if_neg (λe=>hk1 (by
         have:i=z:=hinj i z hil (hbd z (by simp[hz])) e
         grind))]
       rw[Zi (by grind),Zj (by rw[cF oaa,if_pos rfl];simp),hsame,Yg]
      have hml:i∈l:=by rcases Yh.1 hm with e|e;exact absurd e hki;exact e
      have:=ihl hk2 (λz hz=>hbd z (by simp[hz])) hml
      have hgk:(listed.setIfInBounds (f i) ζ).getD (f k) η=listed.getD (f k) false:=by rw[cF oaa,if_neg (λe=>hki (hinj i k hil (hbd k (by simp)) e))]
      cases hgd:listed.getD (f k) η with
      |true=>rw[Zj (by grind),Zj (by grind)];exact this
      |false=>rw[Zi (by grind),Zi (by grind),Yg,Yg,this]
    have:=hcount (v0 ys.length) Zs (λk hk=>by grind) (by grind)
    omega
   .rw[cF oaa];split
    .rfl
    grind
   rw[cF oaa,if_neg (hj' i hil)];exact hpost j hj hj'
  have hrun:∀needs,(∀z t,(z,t)∈needs->cvT E w t (a.eval z))->AWK P o needs y.x.nob y.x.out y.x.nw y.up y.kl->o.wp P a w (wpAny P .any ops Q (unl ops (listed.setIfInBounds (f i) ζ)) (listed.setIfInBounds (f i) ζ)) Q:=by
   intro needs hne hawn
   refine qC (λ_ _ _ h=>h.elim) (Oper.wp_mono ?_ (hawn cx E a w hI.ok hne hnob (λl ob hm=>⟨hfresh l ob hm,B0 hlab i y.x l ob hgi hm⟩)))
   rintro a' w' ⟨v,E',rfl,k1,k2,k3,k4,k4',k5⟩
   rw[L2 t3 hI.size]
   exact hnext v E' w' k1 k2 k3 k4 k4' k5
  have hguard:∀j dj (b:Bool),(ops[j]?).bind (·.dst)=ς dj->dj<N->cvT E w (tB b) (a.eval (.tmp dj))->yielded ops a.tmps j=ς b:=by
   intro j dj b hj hdj hcv
   have hb:a.tmps.getD dj undef= .bool b:=by simpa [cvT,cvV,cvC,rdD,Act.eval] using hcv
   have hs:dj<a.tmps.size:=by rw[hI.size];exact hdj
   have h2:a.tmps[dj]?=ς (.bool b):=by
    rw[YC hs];simpa [Array.getD,hs] using hb
   unfold yielded
   cases ho':ops[j]? with
   |none=>simp[ho'] at hj
   |some o'=>simp[ho'] at hj;simp[hj,h2]
  unfold wpOp
  simp only[ho]
  rcases t5 with⟨hg,hawn⟩|⟨j,dj,b,zs,hg,hj,hdj,hnd,hawn⟩|⟨j,dj,b,t,hg,hj,hdj,hnd,hno,hout,hnw,hup,hkl⟩
  .rw[if_pos (by simp[Region.wanted,hg])]
   exact .inl (hrun _ hneeds hawn)
  .have hy:=hguard j dj b hj hdj (hneeds (.tmp dj) (tB b) (by rw[hnd];simp))
   rw[if_pos (by simp[Region.wanted,hg,hy])]
   exact .inl (hrun zs (λz t hm=>hneeds z t (by rw[hnd];exact .tail _ hm)) hawn)
  have hy:=C6 (N:=N) (ops:=ops) (hneeds (.tmp dj) t (by rw[hnd];simp)) (by rw[hI.size];exact hdj) hj hno
  rw[if_neg (by simp[Region.wanted,hg,hy]),L2 t3 hI.size]
  exact hnext undef E w hI.ok (by rw[hup,hkl];exact .of_extW (.of_ext (Ext.refl E w))) (by rw[hout];exact⟨#[],rfl,θ⟩) (by rw[hnw];simp) (by rw[hup];simp) (λ_ _ h=>.inl h)
end
def BO(P:Program)(N:Nat)(ops:Array Oper)(o:Oper)(st st':St):Prop:=
 (o.guard=ξ/\AWO P N o st st')\/(∃j dj b,o.guard=ς (j,b)/\(ops[j]?).bind (·.dst)=ς dj/\dj<N/\gt st.sl dj=tB b/\AWO P N o st st')
def Bo(ops:Array Oper)(done:List Nat)(h:Nat):Bool:=!iH done h&&(v0 ops.size).all λj=>f4 j h||iH done j||anc ops ops.size j h
def kls:List Inx->List Nat
 |[]=>[]
 |y::ys=>match y.kl with
  |some d=>d::kls ys
  |none=>kls ys
theorem LL{d:Nat}:∀{ys:List Inx} {y:Inx},y∈ys->y.kl=ς d->d∈kls ys
 |z::zs,y,hm,hk=>by
  rcases Yh.1 hm with rfl|hm
  .simp[kls,hk]
  have:=LL hm hk
  unfold kls
  grind
def A9(ys:List Inx)(st s:St):Prop:=
 (∀k,gt s.sl k= .any\/(gt s.sl k=gt st.sl k/\∀d∈kls ys,(gt st.sl k).has d=η))/\(∀l x,go s.ob l=ς x->go st.ob l=ς x/\∀d∈kls ys,l≠d/\x.hasO d=η)/\s.nx=st.nx
theorem Bu{ys:List Inx}(h:kls ys=[]):A9 ys st st:=by
 refine⟨λk=>.inr ⟨rfl,?_⟩,λl x hl=>⟨hl,?_⟩,rfl⟩<;>(simp_all)
theorem Bt{ys:List Inx}{ds:List Nat}{ob:Laa}(h:kls ys=ds)(hk:yv ds sl ob=ς (sl',ob')):A9 ys ⟨sl,ob,nx⟩ ⟨sl',ob',nx⟩:=by
 obtain⟨h1,h2⟩:=BX hk
 subst h
 exact⟨h1,h2,rfl⟩
theorem Jn{ys:List Inx}(h:rJ st st2)(hc:A9 ys st2 s):A9 ys st s:=
 ⟨λk=>by rw[h.1 k];exact hc.1 k,λl x hl=>by rw[h.2.1];exact hc.2.1 l x hl,hc.2.2.trans h.2.2.symm⟩
def DZ(P:Program)(N:Nat)(ops:Array Oper):List (Nat×Oper)->List Nat->List Nat->List Inx->St->St->(St->Prop)->Prop
 |[],done,seg,ys,_,st,K=>vw ops done seg ys=ζ/\∃s,A9 ys st s/\K s
 |(p,o)::r,done,seg,ys,base,st,K=>
  (∃y st1 st',DS2 P N ops o st st1 y/\rJ st1 st'/\DZ P N ops r done (seg++[p]) (ys++[y]) base st' K)\/
  (vw ops done seg ys=ζ/\Bo ops (seg++done) p=ζ/\∃s st0 st1 st2,A9 ys st s/\cM N s st0/\BO P N ops o st0 st1/\cM N st1 st2/\DZ P N ops r (p::(seg++done)) [] [] st2 st2 K)
theorem f6{l:List Nat} :iH l n=ζ↔n∈l:=by
 simp only[iH,YF]
 simp_all
theorem oW{seg:List Nat}(h:j<seg.length):seg[j]?=ς (at0 seg j):=by
 unfold at0
 simp_all
section
variable{P:Program}{N:Nat}{cx:Cx}{ops:Array Oper}{base:St}{f:Nat->Nat}{done seg:List Nat}{ys:List Inx}{Q:Exit->Act->World->Prop}
theorem Ix(h:vw ops done seg ys=ζ):pS (gq ys)=ζ/\seg.length=ys.length/\(seg++done).Nodup/\(∀i,i<ys.length->at0 seg i<ops.size)/\
 (∀i y,ys[i]?=ς y->∀k∈iS y.x.needs,∀j,rY (gq ys) k=ς j->if nlt j i then anc ops ops.size (at0 seg i) (at0 seg j)=ζ else(i=j\/anc ops ops.size (at0 seg j) (at0 seg i)=ζ))/\
 (∀i y,ys[i]?=ς y->∀l∈rQ y,∀j z,ys[j]?=ς z->oT z l=ζ->if nlt j i then anc ops ops.size (at0 seg i) (at0 seg j)=ζ else(i=j\/anc ops ops.size (at0 seg j) (at0 seg i)=ζ))/\
 (∀j,j<ops.size->iH done j=η->(∀i,i<ys.length->at0 seg i≠j)->∀i,i<ys.length->anc ops ops.size j (at0 seg i)=ζ)/\
 (∀j z d,ys[j]?=ς z->z.kl=ς d->∀i y,ys[i]?=ς y->i≠j->z0 y d=ζ->anc ops ops.size (at0 seg j) (at0 seg i)=ζ):=by
 simp only[vw,hV] at h
 obtain⟨⟨⟨⟨⟨⟨h1,h2⟩,h2'⟩,h2''⟩,h3⟩,h4⟩,h5⟩:=h
 have hlen:seg.length=ys.length:=Yf h2
 have key:∀(i j:Nat),(if nlt j i then anc ops ops.size (at0 seg i) (at0 seg j) else f4 i j||anc ops ops.size (at0 seg j) (at0 seg i))=ζ->if nlt j i then anc ops ops.size (at0 seg i) (at0 seg j)=ζ else(i=j\/anc ops ops.size (at0 seg j) (at0 seg i)=ζ):=by
  intro i j h
  split
  .simp_all
  simp_all
 refine⟨h1,hlen,jN h2',λi hi=>?_,λi y hy k hk j hj=>?_,λi y hy l hl j z hz ht=>?_,λj hj hd hs i hi=>?_,λj z d hz hd i y hy hij hs=>?_⟩
 .exact cO (Yi.1 h2'' (at0 seg i) (Yd (oW oaa)))
 .grind
 .grind
 .have:=Yi.1 h4 j (by simp_all)
  rw[Yw,Yw] at this
  rcases this with(h|h)|h
  .simp_all
  .obtain⟨n,hn⟩:=Yn (f6.1 h)
   have hns:=(Yc.1 hn).1
   have:=oW hns
   grind
  exact Yi.1 h (at0 seg i) (Yd (oW oaa))
 have hjl:=(Yc.1 hz).1
 have hil:=(Yc.1 hy).1
 have h6:=Yi.1 h5 j (by simp_all)
 simp only[hz,hd] at h6
 have h7:=Yi.1 h6 i (by grind)
 simp only[hy,hs,Ze,Bool.or_false,Yw] at h7
 rcases h7 with h7|h7
 .exact absurd (Yf h7) hij
 exact h7
theorem HH(hI:MX N cx base f ys listed a w E)(hdst:pS (gq ys)=ζ)(hdone:∀j,j<ys.length->listed.getD (f j) η=ζ)(h1:∀k,gt st.sl k=gt (s9 base (gq ys)) k)(h2:st.ob=obX base ys)(h3:eU base.nx (gq ys) st.nx)(hC:A9 ys st s):Rel N cx E s a w:=by
 have hr:=ku h3
 obtain⟨C1,C2,C3⟩:=hC
 have hDk:∀d,C9 f ys listed d->d∈kls ys:=λd ⟨j,y,_,hy,hk⟩=>LL (Yd hy) hk
 refine⟨hI.ok,λl' x' hl=>?_,λl' ob hl=>?_,λk=>?_,hI.dfr,hI.size,λl' b' h'=>by rw[C3];exact Yr (hI.td l' b' h') hr.1⟩
 .rw[C3];rcases hI.dom l' x' hl with h|⟨j,y,ob,_,h4,h5⟩
  .omega
  have:=hr.2 j y.x l' ob (by simp[gq,h4]) h5;omega
 .obtain⟨hl,hn⟩:=C2 l' ob hl
  refine hI.obs l' ob ?_ (λd hd=>hn d (hDk d hd))
  rw[<-hl,h2,obX]
  refine pG rfl (λj z hz hj=>?_)
  grind
 rcases C1 k with e|⟨e,hn⟩
 .rw[e];trivial
 rw[e]
 have hn':∀d,C9 f ys listed d->(gt st.sl k).has d=false:=λd hd=>hn d (hDk d hd)
 rw[h1 k] at hn' ⊢
 cases hw:rY (gq ys) k with
 |none=>
  have hno:∀z∈gq ys,z.d≠k:=by
   intro z hz e
   have:=YU.1 hw z hz
   rw[e] at this;simp at this
  rw[wG _ _ hno] at hn' ⊢
  exact hI.old k (λj y _ hy=>hno y.x (Y3.2 ⟨y,Yd hy,rfl⟩)) hn'
 |some j=>
  obtain⟨hjl,hjp,_⟩:=YR.1 hw
  have hjd:(gq ys)[j].d=k:=Yf hjp
  have hjl':j<ys.length:=by simpa [gq] using hjl
  have h5:(gq ys)[j]=(ys[j]).x:=by simp[gq]
  have h9:=ue (base:=base) (gq ys) j (gq ys)[j] (Yb hjl) (λj' y hy he=>pT hdst j' j y (gq ys)[j] hy (Yb hjl) he)
  rw[hjd] at h9
  have:=hI.out j ys[j] (hdone j hjl') (Yb hjl') (λd hd=>by simp_all)
  simp_all
theorem Ih(hR:Rel N cx E base a w)(hl:∀j,j<ys.length->listed.getD (f j) η=η):MX N cx base f ys listed a w E:=by
 refine⟨hR.ok,λl x h=>.inl (hR.dom l x h),λl ob h _=>?_,λj y h hy _=>?_,λk _ _=>hR.sl k,hR.dfr,hR.size,hR.td⟩
 .refine hR.obs l ob ?_
  rw[pG (q:=λ_=>η) (B:=base.ob) rfl (λj z hz hj=>by grind)] at h
  rw[vb (n:=0) (λj=>by simp)] at h
  simpa [obF] using h
 grind
theorem H2{l:List Nat}(h:l.Nodup):∀(i j:Nat) (x:Nat),l[i]?=ς x->l[j]?=ς x->i=j:=by
 intro i j x hi hj
 obtain⟨hi',e1⟩:=Yc.1 hi
 obtain⟨hj',e2⟩:=Yc.1 hj
 rcases Zm i j with h'|h'|h'
 .exact absurd (e1.trans e2.symm) (YE.1 h i j hi' hj' h')
 .exact h'
 exact absurd (e2.trans e1.symm) (YE.1 h j i hj' hi' h')
theorem PM{K:St->Prop}{rk:Nat->Nat}(hedge:Edg ops rk)(hQ:∀E st a w,Rel N cx E st a w->K st->Q .normal a w):
 ∀{l:List (Nat×Oper)} {done seg:List Nat} {ys:List Inx} {base st:St},DZ P N ops l done seg ys base st K->seg.length=ys.length->(∀q∈l,ops[q.1]?=ς q.2)->(∀j,j<ops.size->j∈seg\/j∈done\/∃q∈l,q.1=j)->
  (∀(i:Nat) (o:Oper) (y:Inx),ops[at0 seg i]?=ς o->ys[i]?=ς y->O2 P N ops base (ys.take i) o y)->
  (∀k,gt st.sl k=gt (s9 base (gq ys)) k)->st.ob=obX base ys->eU base.nx (gq ys) st.nx->
  ∀(listed:Array Bool) (a:Act) (w:World) (E:Env),listed.size=ops.size->uG ops listed->(∀j,listed.getD j η=iH done j)->Rel N cx E base a w->wpAny P .any ops Q (unl ops listed) listed a w:=by
 intro l
 induction l with
 |nil=>
  intro done seg ys base st hD hlen hops hcov htold h1 h2 h3 listed a w E hsz hcl hls hR
  obtain⟨hseg,s,hcl0,hK⟩:=hD
  obtain⟨c1,c1',c1'',c2,c3,c4,c5,c6⟩:=Ix hseg
  obtain⟨nd1,nd2,nd3⟩:=Zl.1 c1''
  have hnd:∀i,i<ys.length->iH done (at0 seg i)=false:=λi hi=>by
   rw[Zc];intro h
   exact nd3 _ (Yd (oW oaa)) _ (f6.1 h) rfl
  refine EE (f:=at0 seg) (done:=iH done) hedge c2 (λi j hi hj e=>H2 nd1 i j _ (oW oaa) (by rw[e];exact oW oaa)) hnd h3 c1 c3 c4 c6 c5 htold (λlisted' a' w' E' hsz' hcl' hd' hs' hp' hI'=>?_) _ listed a w E rfl hsz hcl (λj hj=>by simp_all) (λj hj _=>by simp_all) (Ih hR (λj hj=>by grind))
  have hall:∀j,j<ops.size->listed'.getD j η=true:=λj hj=>by
   rcases hcov j hj with h|h|⟨q,hq,_⟩
   .obtain⟨i,hi⟩:=Yn h
    have his:=(Yc.1 hi).1
    have:=oW his;grind
   .exact hd' j (f6.2 h)
   cases hq
  have hu:unl ops listed'=0:=by
   unfold unl
   rw[List.length_eq_zero_iff,Zq]
   intro j hj
   rw[hall j (by grind)]
   simp
  rw[hu]
  refine⟨?_,hQ E' s a' w' (HH hI' c1 hs' h1 h2 h3 hcl0) hK⟩
  rw[List.eq_nil_iff_forall_not_mem]
  intro i hi
  obtain⟨k1,k2,_⟩:=lp hsz' hi
  grind
 |cons q r ih=>
  obtain⟨p,o⟩:=q
  intro done seg ys base st hD hlen hops hcov htold h1 h2 h3 listed a w E hsz hcl hls hR
  have hat:ops[p]?=ς o:=hops (p,o) (by simp)
  rcases hD with⟨y,st1,st',hds,hsame,hr⟩|⟨hseg,hbar,s,st0,st1,st2,hcl0,hw0,hbo,hw1,hr⟩
  .obtain⟨k1,k2,k3,k4⟩:=OD hds hsame h1 h2 h3
   refine ih hr (by simp[hlen]) (λq hq=>hops q (by simp[hq])) (λj hj=>?_) (λi o' y' ho' hy'=>?_) k2 k3 k4 listed a w E hsz hcl hls hR
   .grind
   rcases Yx i ys.length with h|h
   .rw[Yt h] at hy'
    rw[List.take_append_of_le_length oaa]
    have e:at0 (seg++[p]) i=at0 seg i:=by unfold at0;rw[Zo,Zo,Yt oaa]
    grind
   have hi:i=ys.length:=by
    have:=(Yc.1 hy').1
    simp at this;omega
   subst hi
   simp at hy'
   subst hy'
   rw[List.take_left]
   have e:at0 (seg++[p]) ys.length=p:=by unfold at0;rw[Zo,<-hlen];simp
   grind
  obtain⟨c1,c1',c1'',c2,c3,c4,c5,c6⟩:=Ix hseg
  obtain⟨nd1,nd2,nd3⟩:=Zl.1 c1''
  have hlt:p<ops.size:=by
   rcases Yx p ops.size with h|h
   .exact h
   grind
  have hnd:∀i,i<ys.length->iH done (at0 seg i)=false:=λi hi=>by
   rw[Zc];intro h
   exact nd3 _ (Yd (oW oaa)) _ (f6.1 h) rfl
  refine EE (f:=at0 seg) (done:=iH done) hedge c2 (λi j hi hj e=>H2 nd1 i j _ (oW oaa) (by rw[e];exact oW oaa)) hnd h3 c1 c3 c4 c6 c5 htold (λlisted' a' w' E' hsz' hcl' hd' hs' hp' hI'=>?_) _ listed a w E rfl hsz hcl (λj hj=>by grind) (λj hj _=>by grind) (Ih hR (λj hj=>by grind))
  have hseg':∀j,j∈seg->listed'.getD j η=true:=λj h=>by
   obtain⟨i,hi⟩:=Yn h
   have his:=(Yc.1 hi).1
   have:=oW his;grind
  have hls':∀j,listed'.getD j η=iH (seg++done) j:=λj=>by
   cases hm:iH (seg++done) j with
   |true=>
    rcases Ye.1 (f6.1 hm) with h|h
    .grind
    exact hd' j (f6.2 h)
   |false=>
    have hn:j∉seg++done:=λh=>by rw[f6.2 h] at hm;cases hm
    refine hp' j ?_ (λi hi e=>hn ?_)
    .rw[Zc];intro h;exact hn (Ye.2 (.inr (f6.1 h)))
    rw[<-e];exact Ye.2 (.inl (Yd (oW oaa)))
  have hRel:=HH hI' c1 hs' h1 h2 h3 hcl0
  simp only[Bo,hV] at hbar
  obtain⟨hpd,hbar⟩:=hbar
  have hun:listed'.getD p η=false:=by rw[hls'];simpa using hpd
  have hus:=qz (ops:=ops) hsz' hlt hun
  rw[hus]
  refine⟨λh0=>absurd h0 (Ce hedge hsz' hus),λq hq=>?_⟩
  obtain⟨hio,hunp,o',ho',hd⟩:=lp hsz' hq
  have hp:q=p:=by
   have hb:=Yi.1 hbar q (by grind)
   rw[Yw,Yw] at hb
   rcases hb with(hb|hb)|hb
   .exact Yf hb
   .grind
   have:=xq hcl' hb ⟨o',ho',hd⟩
   grind
  subst hp
  rw[hat] at ho'
  cases ho'
  obtain⟨E0,hR0⟩:=hw0 cx E' a' w' hRel
  have hrun:∀(h:AWO P N o st0 st1),o.wp P a' w' (wpAny P .any ops Q (unl ops (listed'.setIfInBounds q ζ)) (listed'.setIfInBounds q ζ)) Q:=by
   intro h
   refine qC (λ_ _ _ h=>h.elim) (Oper.wp_mono ?_ (h cx E0 a' w' hR0))
   rintro a2 w2 ⟨E2,hR2⟩
   obtain⟨E3,hR3⟩:=hw1 cx E2 a2 w2 hR2
   refine ih hr rfl (λq hq=>hops q (by simp[hq])) (λj hj=>?_) (λi o' y' ho' hy'=>by simp at hy') (λk=>rfl) rfl rfl _ a2 w2 E3 (by grind) (uM hsz' hlt hat hd hcl') (λj=>?_) hR3
   .rcases hcov j hj with h|h|⟨z,hz,e⟩
    .grind
    .grind
    grind
   rw[cF oaa]
   split
   .rename_i h;subst h;symm;exact f6.2 (by simp)
   rename_i hne
   rw[hls' j]
   cases hm:iH (seg++done) j with
   |true=>symm;exact f6.2 (List.mem_cons_of_mem _ (f6.1 hm))
   |false=>
    symm;rw[Zc];intro h
    rcases Yh.1 (f6.1 h) with e|h
    .omega
    rw[f6.2 h] at hm;cases hm
  unfold wpOp
  simp only[hat]
  rcases hbo with⟨hg,hawo⟩|⟨j,dj,b,hg,hj,hdj,hb,hawo⟩
  .rw[if_pos (by simp[Region.wanted,hg])]
   grind
  have hy:=C5 (ops:=ops) hR0 hj hdj hb
  rw[if_pos (by simp[Region.wanted,hg,hy])]
  grind
end
def Cc(l:List Oper):List Nat->Option (List (Nat×Oper))
 |[]=>ς []
 |i::is=>match l[i]?,Cc l is with
  |some o,ς r=>ς ((i,o)::r)
  |_,_=>ξ
def Jp(n:Nat)(is:List Nat):Bool:=(v0 n).all λj=>iH is j
theorem qc{l:List Oper}:∀{is:List Nat} {r:List (Nat×Oper)},Cc l is=ς r->(∀q∈r,l[q.1]?=ς q.2)/\(∀j∈is,∃q∈r,q.1=j)
 |[],r,h=>by simp[Cc] at h;subst h;simp
 |i::is,r,h=>by
  simp only[Cc] at h
  split at h
  .rename_i o r' h1 h2
   simp at h;subst h
   obtain⟨k1,k2⟩:=qc h2
   refine⟨λq hq=>?_,λj hj=>?_⟩
   .grind
   rcases Yh.1 hj with rfl|hj
   .simp_all
   simp_all
  cases h
theorem jT{id:Nat}{l:List Oper}{AQ:Exit->St->Prop}(is:List Nat){r:List (Nat×Oper)}(hm:P.follows .mixedOrders=true:=by exact Try.follows)(he:AG l.toArray=true:=by kernel_rfl)(hc:Jp l.length is=true:=by kernel_rfl)(ho:Cc l is=ς r:=by exact rfl)(h:DZ P N l.toArray r [] [] [] st st (λs=>AQ .normal s)):AWC P N (.region id l.toArray ζ) st AQ:=by
 intro cx E a w hR
 refine wp_region_any hm ?_
 have hR':=yL hR
 have hedge:∀i o,l.toArray[i]?=ς o->∀e∈o.after,Region.binds .any e=ζ->e.on<i:=by
  intro i o ho e hm hb
  have hi:i<l.toArray.size:=by
   rcases Yx i l.toArray.size with h|h
   .exact h
   simp_all
  have:=Yi.1 he i (by simp_all)
  simp only[ho] at this
  have:=Yi.1 this e (by simp_all)
  simp only[hb,Ze,Bool.false_or] at this
  exact cO this
 have hfull:unl l.toArray (Ym l.toArray.size η)=l.toArray.size:=by
  unfold unl
  rw[List.filter_eq_self.2]
  .simp
  simp_all
 have:=PM (P:=P) (cx:=cx) (Q:=B4 N cx AQ) (PO hedge) (λE st a w hR hK=>⟨E,st,hR,hK⟩) h rfl (λq hq=>by have:=(qc ho).1 q hq;simp_all) (λj hj=>by
  have hj':j<l.length:=by simpa using hj
  have:=Yi.1 hc j (by simp_all)
  exact .inr (.inr ((qc ho).2 j (f6.1 this)))) (λi o y _ hy=>by simp at hy) (λk=>rfl) rfl rfl (Ym l.toArray.size η) a _ E (by simp) (λi o ho hd=>by rw[iv] at hd;cases hd) (λj=>by rw[iv];simp[iH]) hR'
 simp_all
section
variable{P:Program}{N:Nat}{ops:Array Oper}{l:List (Nat×Oper)}{o:Oper}{st st' base:St}{x:Inf}{y:Inx}{K:St->Prop}{ys:List Inx}{dn seg:List Nat}{p:Nat}
theorem Jw(hs:vw ops dn seg ys=ζ)(hk:kls ys=[])(h:K st):DZ P N ops [] dn seg ys base st K:=⟨hs,st,Bu hk,h⟩
theorem lA{ds:List Nat}{ob:Laa}(hs:vw ops dn seg ys=ζ)(hk:kls ys=ds)(hA:yv ds sl ob=ς (sl',ob'))(h:K ⟨sl',ob',nx⟩):DZ P N ops [] dn seg ys base ⟨sl,ob,nx⟩ K:=⟨hs,_,Bt hk hA,h⟩
theorem gA(hg:o.guard=ξ)(h:NS P N o st st' x)(h':DZ P N ops l dn (seg++[p]) (ys++[⟨x,[],ξ⟩]) base st' K):DZ P N ops ((p,o)::l) dn seg ys base st K:=.inl ⟨_,st',st',.inl ⟨hg,H4 h⟩,.refl _,h'⟩
theorem K8{dj:Tmp}{b:Bool}(hg:o.guard=ς (j,b))(hj:(ops[j]?).bind (·.dst)=ς dj)(hdj:nlt dj N=ζ)(hb:gt st.sl dj=tB b)(h:NS P N o st st' x)(h':DZ P N ops l dn (seg++[p]) (ys++[⟨{x with needs:=(.tmp dj,tB b)::x.needs},[],ξ⟩]) base st' K):DZ P N ops ((p,o)::l) dn seg ys base st K:=.inl ⟨_,st',st',.inr (.inl ⟨j,dj,b,_,hg,hj,cO hdj,hb,H4 h,rfl⟩),.refl _,h'⟩
theorem pU(hg:o.guard=ξ)(h:NX P N o st st' y)(h':DZ P N ops l dn (seg++[p]) (ys++[y]) base st' K):DZ P N ops ((p,o)::l) dn seg ys base st K:=.inl ⟨_,st',st',.inl ⟨hg,h⟩,.refl _,h'⟩
theorem T3{dj d:Tmp}{b:Bool}(hg:o.guard=ς (j,b))(hj:(ops[j]?).bind (·.dst)=ς dj){t:T}(hdj:nlt dj N=ζ)(ht:gt st.sl dj=t)(hb:noG b t=ζ)(hd:o.dst=ς d)(hN:nlt d N=ζ)(h':DZ P N ops l dn (seg++[p]) (ys++[⟨⟨d,[(.tmp dj,t)],[],.tup [],[]⟩,[],ξ⟩]) base ⟨(d,.tup [])::st.sl,st.ob,st.nx⟩ K):DZ P N ops ((p,o)::l) dn seg ys base st K:=
 .inl ⟨_,_,_,.inr (.inr ⟨j,dj,b,d,hg,hj,cO hdj,by simp_all,hd,cO hN,by rw[ht],rfl⟩),.refl _,h'⟩
theorem kh{st0 st1:St}(hg:o.guard=ξ)(h:AWO P N o st0 st1):BO P N ops o st0 st1:=.inl ⟨hg,h⟩
theorem cz:cM N s s:=λ_ E _ _ h=>⟨E,h⟩
theorem tx{st0 st1:St}(hs:vw ops dn seg ys=ζ)(hkl:kls ys=[])(hb:Bo ops (seg++dn) p=ζ)(hw:cM N st st0)(h:BO P N ops o st0 st1)(hw2:cM N st1 st2){dn':List Nat}(hlo:p::(seg++dn)=dn')(h':DZ P N ops l dn' [] [] st2 st2 K):DZ P N ops ((p,o)::l) dn seg ys base st K:=by
 subst hlo
 exact .inr ⟨hs,hb,st,st0,st1,st2,Bu hkl,hw,h,hw2,h'⟩
theorem LY(h:rJ st st2)(hn:NX P N o st2 st' y):∃s',NX P N o st s' y/\rJ s' st':=by
 obtain⟨h1,h2,h4,h5,h6,h7⟩:=hn
 refine⟨⟨(y.x.d,y.x.out)::st.sl,y.x.nw++(y.up++st.ob),st'.nx⟩,⟨h1,h2,EM (λk=>(h.1 k).symm) h4,by rw[h.2.1];exact h5,by rw[h.2.2];exact h6,rfl⟩,?_⟩
 rw[h7]
 refine⟨λk=>?_,?_,rfl⟩
 .by_cases hk:y.x.d=k
  .subst hk;rw[cW,cW]
  rw[cy _ _ hk,cy _ _ hk];exact h.1 k
 show y.x.nw++(y.up++st.ob)=y.x.nw++(y.up++st2.ob)
 rw[h.2.1]
theorem K9(h:rJ st st2)(hd:DZ P N ops ((p,o)::l) dn seg ys base st2 K):DZ P N ops ((p,o)::l) dn seg ys base st K:=by
 rcases hd with⟨y,st1,st',hds,hsame,hr⟩|⟨hs,hb,s,st0,st1,st3,hcl,hw,hbo,hw2,hr⟩
 .left
  rcases hds with⟨hg,hn⟩|⟨j,dj,b,z,hg,hj,hdj,hb,hn,rfl⟩|⟨j,dj,b,d,hg,hj,hdj,hb,hd,hN,rfl,rfl⟩
  .obtain⟨s',k1,k2⟩:=LY h hn
   exact⟨y,s',st',.inl ⟨hg,k1⟩,k2.trans hsame,hr⟩
  .obtain⟨s',k1,k2⟩:=LY h hn
   exact⟨_,s',st',.inr (.inl ⟨j,dj,b,z,hg,hj,hdj,by rw[h.1];exact hb,k1,rfl⟩),k2.trans hsame,hr⟩
  refine⟨_,⟨(d,.tup [])::st.sl,st.ob,st.nx⟩,st',.inr (.inr ⟨j,dj,b,d,hg,hj,hdj,by rw[h.1];exact hb,hd,hN,by rw[h.1],rfl⟩),rJ.trans (b:=⟨(d,.tup [])::st2.sl,st2.ob,st2.nx⟩) ⟨λk=>?_,h.2.1,h.2.2⟩ hsame,hr⟩
  show gt ((d,T.tup [])::st.sl) k=gt ((d,T.tup [])::st2.sl) k
  by_cases hk:d=k
  .subst hk;rw[cW,cW]
  rw[cy _ _ hk,cy _ _ hk];exact h.1 k
 exact .inr ⟨hs,hb,s,st0,st1,st3,Jn h hcl,hw,hbo,hw2,hr⟩
theorem PN{d:Tmp}{b:Bool}(hb:gt st.sl d=tB b)(h1:b=ζ->DZ P N ops ((p,o)::l) dn seg ys base ⟨(d,tB ζ)::st.sl,st.ob,st.nx⟩ K)(h0:b=η->DZ P N ops ((p,o)::l) dn seg ys base ⟨(d,tB η)::st.sl,st.ob,st.nx⟩ K):DZ P N ops ((p,o)::l) dn seg ys base st K:=by
 cases hc:b with
 |true=>exact K9 (rf hb hc) (h1 hc)
 |false=>exact K9 (rf hb hc) (h0 hc)
theorem Fg{K K':St->Prop}(hk:∀s,K s->K' s):∀{l:List (Nat×Oper)} {dn seg:List Nat} {ys:List Inx} {base st:St},DZ P N ops l dn seg ys base st K->DZ P N ops l dn seg ys base st K'
 |[],_,_,_,_,_,h=>by obtain⟨h1,s,h2,h3⟩:=h;exact⟨h1,s,h2,hk _ h3⟩
 |(p,o)::l,_,_,_,_,_,h=>by
  rcases h with⟨y,st1,st',h1,h2,h3⟩|⟨h1,h2,s,st0,st1,st2,h0,h3,h4,h5,h6⟩
  .exact .inl ⟨y,st1,st',h1,h2,Fg hk h3⟩
  exact .inr ⟨h1,h2,s,st0,st1,st2,h0,h3,h4,h5,Fg hk h6⟩
theorem T2(M:St)[c:C8 N K](h1:DZ P N ops l dn seg ys base st (λs=>cM N s M))(h2:K M):DZ P N ops l dn seg ys base st K:=Fg (λs h=>c.h _ _ h h2) h1
end
section
variable{P:Program}{N:Nat}{ops:Array Oper}{l:List (Nat×Oper)}{o:Oper}{sl:Lab}{ob:Laa}{nx:Nat}{base:St}{K:St->Prop}{ys:List Inx}{dn seg:List Nat}{p:Nat}
theorem zgs{dj d:Tmp}{b:Bool}{t:T}(hg:o.guard=ς (j,b))(hj:(ops[j]?).bind (·.dst)=ς dj)(hdj:nlt dj N=ζ)(ht:gt sl dj=t)(hb:noG b t=ζ)(hd:o.dst=ς d)(hN:nlt d N=ζ)(h':DZ P N ops l dn (seg++[p]) (ys++[⟨⟨d,[(.tmp dj,t)],[],.tup [],[]⟩,[],ξ⟩]) base ⟨(d,.tup [])::sl,ob,nx⟩ K):DZ P N ops ((p,o)::l) dn seg ys base ⟨sl,ob,nx⟩ K:=T3 (st:=⟨sl,ob,nx⟩) hg hj hdj ht hb hd hN h'
theorem zg2{dj:Tmp}{b c:Bool}(hg:o.guard=ς (j,b))(hj:(ops[j]?).bind (·.dst)=ς dj)(hb:gt sl dj=tB c)(h1:c=ζ->DZ P N ops ((p,o)::l) dn seg ys base ⟨(dj,tB ζ)::sl,ob,nx⟩ K)(h0:c=η->DZ P N ops ((p,o)::l) dn seg ys base ⟨(dj,tB η)::sl,ob,nx⟩ K):DZ P N ops ((p,o)::l) dn seg ys base ⟨sl,ob,nx⟩ K:=PN (st:=⟨sl,ob,nx⟩) hb h1 h0
theorem cwx{d:Tmp}{o:Nat}{x0 x1:Ob}{eqs:Lac}(hF:FnW P f x1 ts' y res)(ht:pj sl args=ς ts:=by exact rfl)(ho:go ob o=ς x0:=by exact rfl)(hl:x0.loc=x1:=by exact rfl)(hfx:x0.free=true:=by exact rfl)(hfy:y.free=true:=by exact rfl)(ha:xc [] o ts=ς (ts',eqs):=by exact rfl)(he:Eqs eqs:=by repeat (first|exact θ|refine⟨by first|rfl|exact lm _|simp,?_⟩))(hi:xF nx res=ς (out,nw,n):=by exact rfl)(hw:As nx nw n=true:=by exact rfl)(hN:nlt d N=true:=by exact rfl)(hob:apO nw ((o,y)::ob)=ς ob':=by exact rfl):
 NX P N ⟨ς d,.call ⟨.value (.func f),args.toArray,tys⟩,ty,ps,af,gd⟩ ⟨sl,ob,nx⟩ ⟨(d,out)::sl,ob',n⟩ ⟨⟨d,args.zip ts,[(o,x0)],out,nw⟩,[(o,y)],ξ⟩:=by
 subst hl
 rw[rL hob]
 obtain⟨t1,t2⟩:=qS ht
 exact⟨tp (M5 hF t1 hfx hfy ha he hi),.inl ⟨rfl,cO hN⟩,t2,⟨ho,θ⟩,AN hw,rfl⟩
theorem ym{cx:Cx}{o c:Nat}{cs:Array Value}(ok:da cx E w)(hr:E.r o=ς (b,c))(hF:¬E.F b):da cx E (w.setRow b cs):=by
 have hsz:(w.setRow b cs).heap.size=w.heap.size:=by simp
 refine⟨λk hk=>by rw[hsz];exact ok.fb k hk,ok.gf,ok.gn,λo b c h=>by rw[hsz];exact ok.rb o b c h,ok.inj,ok.os,ok.tape,ok.output,by rw[hsz];exact ok.size,λk hk hW=>?_,ok.pin,ok.ff,λk hg hk'=>(ok.gc k hg hk').of_eq (dw w b k cs (λe=>hF (by simp_all))),ok.sf.setRow hr⟩
 rw[dw _ _ _ _ (λe=>by
  subst e
  rcases(ok.rb o k c hr).2 with h|h
  .omega
  simp_all)]
 exact ok.block k hk hW
theorem Hm{cx:Cx}{o c:Nat}{cs:Array Value}{ob':Ob}(ok:da cx E w)(hr:E.r o=ς (b,c))(hF:¬E.F b):MW [(o,ob')] E w E (w.setRow b cs):=by
 refine⟨λ_ _ h=>h,λ_ h=>h,λ_ h=>h,λ_ h=>.inl h,λk hk hne=>dw w b k cs (λe=>?_),λl ob k c' hm h=>?_,rfl,rfl,rfl⟩
 .simp_all
 simp_all
theorem spx{x y:Operand}{o:Nat}{vt:TypeId}{ns:List C}{v:V}(q:Nat)(hq:Yk N q=true:=by exact rfl)[ht:TyN P t n](hx:opT sl x= .v (.c (.p o k)):=by exact rfl)(hy:opT sl y= .v v:=by exact rfl)(ho:go ob o=ς (.var vt cs):=by exact rfl)(hv:vcs v=ς ns:=by exact rfl)(hn:f4 ns.length n=true:=by exact rfl)(hst:ns.all C.sto=true:=by exact rfl)(hs:qI k ns cs=ς cs':=by exact rfl):
 NX P N ⟨ξ,.store t x y,ty,ps,af,gd⟩ ⟨sl,ob,nx⟩ ⟨(q,.any)::sl,(o,.var vt cs')::ob,nx⟩ ⟨⟨q,[(x,.v (.c (.p o k))),(y,.v v)],[(o,.var vt cs)],.any,[]⟩,[(o,.var vt cs')],ξ⟩:=by
 refine⟨tp ?_,.inr ⟨rfl,YJ hq,rfl⟩,⟨hx,hy,θ⟩,⟨ho,θ⟩,rfl,rfl⟩
 intro cx E a w ok hne hnob hfr
 have h1:cvT E w (.v (.c (.p o k))) (a.eval x):=hne x _ (.head _)
 have h2:cvT E w (.v v) (a.eval y):=hne y _ (.tail _ (.head _))
 obtain⟨b,c,hr,hu⟩:=h1
 have h3:cB E w o (.var vt cs):=hnob o _ (.head _)
 obtain⟨b',c',arr,hr',hh,hcv,hF⟩:=h3
 rw[hr] at hr';cases hr'
 have hvc:=GE hv h2
 have hl1:=iU hvc
 have hl2:=iU hcv
 have hnn:=Yf hn
 have hle:=(rF hs).2
 have hsz:(a.eval y).cells.size=n:=by simp at hl1;omega
 have hrun:=rG (P:=P) (t:=t) (n:=n) (k:=k) hsz (OX hv hst h2) hh (by simp_all)
 unfold Oper.wp
 simp only[execOp,hu,Sem.run_bind,hrun,Result.andThen_ok,Sem.run_pure,Oper.upon_skip,Act.put]
 have hk:=jt (cs:=(arr.toList.take k++(a.eval y).cells.toList++arr.toList.drop (k+n)).toArray) (w:=w) ok hr hF
 refine⟨undef,E,θ,ym ok hr hF,?_,θ,(λ_ _ h=>by cases h),λl ob' hm=>?_,λl p h=>.inl h⟩
 .exact Hm ok hr hF
 simp at hm;obtain⟨rfl,rfl⟩:=hm
 refine⟨b,c,_,hr,gL _ hh,?_,hF⟩
 refine pK hk (zn hs hvc hcv ?_ λi=>?_)
 .grind
 rw[show(arr.toList.take k++(a.eval y).cells.toList++arr.toList.drop (k+n)).toArray.toList=arr.toList.take k++(a.eval y).cells.toList++arr.toList.drop (k+n) from rfl]
 exact lB oaa oaa i
end
def sw(p q l:Nat):Nat:=bif f4 l p then q else bif f4 l q then p else l
theorem Jk(a b:Nat):f4 a b=decide (a=b):=by
 by_cases h:a=b
 .subst h;simp
 rw[jo h];simp[h]
theorem CS(p q l:Nat):sw p q (sw p q l)=l:=by
 unfold sw
 simp only[Jk]
 grind
theorem XK{a:Nat}(h:sw p q a=sw p q b):a=b:=by rw[<-CS p q a,h,CS]
theorem So(hp:rsv p=η)(hq:rsv q=η)(l:Nat):(rsv l=ζ->sw p q l=l)/\(rsv (sw p q l)=ζ->sw p q l=l):=by
 unfold sw
 simp only[Jk]
 grind
theorem sw_lt(hp:p<n)(hq:q<n)(h:sw p q l<n):l<n:=by
 rw[<-CS p q l]
 generalize sw p q l=m at h
 unfold sw
 grind
def swC(p q:Nat):C->C
 | .w o n=>.w (sw p q o) n
 | .wn o n=>.wn (sw p q o) n
 | .s o a b c=>.s (sw p q o) a b c
 | .p o k=>.p (sw p q o) k
 | .e o a b c=>.e (sw p q o) a b c
 |c=>c
def Ve(p q:Nat):List C->List C
 |[]=>[]
 |c::cs=>swC p q c::Ve p q cs
def swV(p q:Nat):V->V
 | .c c=>.c (swC p q c)
 | .agg cs=>.agg (Ve p q cs)
def XJ(p q:Nat):List V->List V
 |[]=>[]
 |c::cs=>swV p q c::XJ p q cs
def swT(p q:Nat):T->T
 | .v v=>.v (swV p q v)
 | .tup vs=>.tup (XJ p q vs)
 | .any=>.any
def XH(p q:Nat):Ob->Ob
 | .var t cs=>.var t (Ve p q cs)
 |o=>o
def swS(p q:Nat):Lab->Lab
 |[]=>[]
 |(k,t)::r=>(k,swT p q t)::swS p q r
def swO(p q:Nat):Laa->Laa
 |[]=>[]
 |(k,t)::r=>(sw p q k,XH p q t)::swO p q r
def Env.sw(E:Env)(p q:Nat):Env:={E with r:=λl=>E.r (AM.sw p q l),n:=λl=>E.n (AM.sw p q l)}
theorem Sm{c:C}(h:cvC E w c u):cvC (E.sw p q) w (swC p q c) u:=by
 have e:∀o,(E.sw p q).r (sw p q o)=E.r o:=λo=>by simp[Env.sw,CS]
 cases c with
 |w o n=>obtain⟨b,c,h1,h2⟩:=h;exact⟨b,c,(e o).trans h1,h2⟩
 |wn o n=>
  have e2:(E.sw p q).n (sw p q o)=E.n o:=by simp[Env.sw,CS]
  rcases h with⟨h1,h2⟩|⟨h0,b,c,h1,h2⟩
  .exact .inl ⟨by simp_all,h2⟩
  exact .inr ⟨by simp_all,b,c,(e o).trans h1,h2⟩
 |s o a b c=>obtain⟨A,c',b',k,h1,h2⟩:=h;exact⟨A,c',b',k,(e o).trans h1,h2⟩
 |p o k=>obtain⟨b,c,h1,h2⟩:=h;exact⟨b,c,(e o).trans h1,h2⟩
 |e o a b c=>obtain⟨b',c',h1,h2⟩:=h;exact⟨b',c',(e o).trans h1,h2⟩
 |_=>exact h
theorem Gx{E:Env}{w:World}{p q:Nat}:∀{cs:List C} {us:Lae},CV E w cs us->CV (E.sw p q) w (Ve p q cs) us
 |[],[],h=>h
 |[],_::_,h=>h.elim
 |_::_,[],h=>h.elim
 |_::_,_::_,h=>⟨Sm h.1,Gx h.2⟩
theorem Sn{c:V}(h:cvV E w c u):cvV (E.sw p q) w (swV p q c) u:=by
 cases c with
 |c c=>exact Sm h
 |agg cs=>obtain⟨arr,h1,h2⟩:=h;exact⟨arr,h1,Gx h2⟩
theorem MG{E:Env}{w:World}{p q:Nat}:∀{cs:List V} {us:Lae},VV E w cs us->VV (E.sw p q) w (XJ p q cs) us
 |[],[],h=>h
 |[],_::_,h=>h.elim
 |_::_,[],h=>h.elim
 |_::_,_::_,h=>⟨Sn h.1,MG h.2⟩
theorem XI{t:T}(h:cvT E w t u):cvT (E.sw p q) w (swT p q t) u:=by
 cases t with
 |v v=>exact Sn h
 |tup vs=>obtain⟨arr,h1,h2⟩:=h;exact⟨arr,h1,MG h2⟩
 |any=>trivial
theorem Vf{o:Nat}{ob:Ob}(h:cB E w (sw p q o) ob):cB (E.sw p q) w o (XH p q ob):=by
 cases ob with
 |var t cs=>obtain⟨b,c,arr,h1,h2,h3,h4⟩:=h;exact⟨b,c,arr,h1,h2,Gx h3,h4⟩
 |row t sz els g m=>exact h
 |rown t sz els g=>exact h
 |abs l y=>exact h
theorem Qf{p q:Nat}:∀(sl:Lab) (k:Nat),gt (swS p q sl) k=swT p q (gt sl k)
 |[],k=>rfl
 |(j,t)::r,k=>by
  simp only[swS,gt]
  cases f4 j k
  .exact Qf r k
  rfl
theorem Qe{p q:Nat}:∀(ob:Laa) (o:Nat),go (swO p q ob) o=(go ob (sw p q o)).map (XH p q)
 |[],o=>rfl
 |(j,t)::r,o=>by
  simp only[swO,go,Jk]
  by_cases h:j=sw p q o
  .subst h;simp[CS]
  have h2:sw p q j≠o:=λe=>h (by rw[<-e,CS])
  simp only[h,h2,decide_false,cond_false]
  exact Qe r o
theorem vS{ob:Laa}(hp:rsv p=false:=by exact rfl)(hq:rsv q=false:=by exact rfl)(hpn:nlt p nx=true:=by exact rfl)(hqn:nlt q nx=true:=by exact rfl):cM N ⟨sl,ob,nx⟩ ⟨swS p q sl,swO p q ob,nx⟩:=by
 intro cx E a w hR
 have ok:=hR.ok
 refine⟨E.sw p q,⟨ok.fb,ok.gf,ok.gn,λo b c h=>?_,λo o' b c c' h h'=>XK (ok.inj _ _ _ _ _ h h'),ok.os,ok.tape,ok.output,ok.size,ok.block,λo x hr h=>?_,ok.ff,ok.gc,?_⟩,λo x h=>sw_lt (cO hpn) (cO hqn) (hR.dom _ x h),λo ob' h=>?_,λk=>?_,hR.dfr,hR.size,hR.td⟩
 .obtain⟨h1,h2⟩:=ok.rb _ b c h
  refine⟨h1,h2.imp id λh3=>⟨h3.1,?_⟩⟩
  have:=(So hp hq o).2 h3.2
  simp_all
 .have h':E.r (sw p q o)=ς x:=h
  rw[(So hp hq o).1 (F7 hr)] at h'
  exact ok.pin o x hr h'
 .have sf:=ok.sf
  exact⟨λl b h=>⟨(sf.tb l b h).1,(sf.tb l b h).2.1,λo c=>(sf.tb l b h).2.2.1 _ c,(sf.tb l b h).2.2.2⟩,sf.tt,λb h=>⟨(sf.zc b h).1,(sf.zc b h).2.1,λo c=>(sf.zc b h).2.2.1 _ c,(sf.zc b h).2.2.2⟩,sf.zs,sf.ze⟩
 .rw[Qe] at h
  cases hg:go ob (sw p q o) with
  |none=>simp_all
  |some x=>rw[hg] at h;cases h;exact Vf (hR.obs _ x hg)
 rw[Qf];exact XI (hR.sl k)
def wnC(o n:Nat):C->C
 | .w k m=>bif f4 k o then .w k n else .w k m
 | .wn k m=>bif f4 k o then .wn k n else .wn k m
 |c=>c
def Tg(o n:Nat):C->Lac
 | .w k m=>bif f4 k o then [(m,n)] else []
 | .wn k m=>bif f4 k o then [(m,n)] else []
 |_=>[]
def Tf(o n:Nat):List C->List C
 |[]=>[]
 |c::cs=>wnC o n c::Tf o n cs
def I6(o n:Nat):List C->Lac
 |[]=>[]
 |c::cs=>Tg o n c++I6 o n cs
def wnT(o n:Nat):T->T
 | .v (.c c)=>.v (.c (wnC o n c))
 | .v (.agg cs)=>.v (.agg (Tf o n cs))
 |t=>t
def X6(o n:Nat):T->Lac
 | .v (.c c)=>Tg o n c
 | .v (.agg cs)=>I6 o n cs
 |_=>[]
def wnS(o n:Nat):Lab->Lab
 |[]=>[]
 |(k,t)::r=>(k,wnT o n t)::wnS o n r
def KI(o n:Nat):Lab->Lac
 |[]=>[]
 |(_,t)::r=>X6 o n t++KI o n r
def wnO(o n:Nat):Laa->Laa
 |[]=>[]
 |(k,.var t cs)::r=>(k,.var t (Tf o n cs))::wnO o n r
 |p::r=>p::wnO o n r
def I7(o n:Nat):Laa->Lac
 |[]=>[]
 |(_,.var _ cs)::r=>I6 o n cs++I7 o n r
 |_::r=>I7 o n r
theorem Te{o:Nat}{c:C}(he:Eqs (Tg o n c))(h:cvC E w c u):cvC E w (wnC o n c) u:=by
 cases c with
 |w k m=>
  simp only[wnC,Tg] at he ⊢
  cases hk:f4 k o with
  |false=>exact h
  |true=>rw[hk] at he;have:m=n:=he.1;simp_all
 |wn k m=>
  simp only[wnC,Tg] at he ⊢
  cases hk:f4 k o with
  |false=>exact h
  |true=>rw[hk] at he;have:m=n:=he.1;simp_all
 |_=>exact h
theorem GI{E:Env}{w:World}{o n:Nat}:∀{cs:List C} {us:Lae},Eqs (I6 o n cs)->CV E w cs us->CV E w (Tf o n cs) us
 |[],[],_,h=>h
 |[],_::_,_,h=>h.elim
 |_::_,[],_,h=>h.elim
 |_::_,_::_,he,h=>by obtain⟨h1,h2⟩:=dO he;exact⟨Te h1 h.1,GI h2 h.2⟩
theorem X7{o:Nat}{t:T}(he:Eqs (X6 o n t))(h:cvT E w t u):cvT E w (wnT o n t) u:=by
 cases t with
 |v v=>
  cases v with
  |c c=>exact Te he h
  |agg cs=>obtain⟨arr,h1,h2⟩:=h;exact⟨arr,h1,GI he h2⟩
 |_=>exact h
theorem Td{o:Nat}{ob:Laa}(he:Eqs (KI o n sl))(he2:Eqs (I7 o n ob)):cM N ⟨sl,ob,nx⟩ ⟨wnS o n sl,wnO o n ob,nx⟩:=by
 intro cx E a w hR
 refine⟨E,hR.ok,hR.dom,λp x h=>?_,λk=>?_,hR.dfr,hR.size,hR.td⟩
 .have key:∀(ob:Laa) (x:Ob),Eqs (I7 o n ob)->go (wnO o n ob) p=ς x->∃y,go ob p=ς y/\(cB E w p y->cB E w p x):=by
   intro ob
   induction ob with
   |nil=>intro x _ h;cases h
   |cons q r ih=>
    intro x he h
    obtain⟨k,v⟩:=q
    cases v with
    |var t cs=>
     obtain⟨h1,h2⟩:=dO (show Eqs (I6 o n cs++I7 o n r) from he)
     simp only[wnO,go] at h ⊢
     cases hk:f4 k p with
     |false=>simp_all
     |true=>
      rw[hk] at h
      cases h
      exact⟨_,rfl,λ⟨b,c,arr,k1,k2,k3,k4⟩=>⟨b,c,arr,k1,k2,GI h1 k3,k4⟩⟩
    |row t sz els g m=>
     simp only[wnO,go] at h ⊢
     cases hk:f4 k p with
     |false=>rw[hk] at h;exact ih x he h
     |true=>simp_all
    |rown t sz els g=>
     simp only[wnO,go] at h ⊢
     cases hk:f4 k p with
     |false=>rw[hk] at h;exact ih x he h
     |true=>simp_all
    |abs l y=>
     simp only[wnO,go] at h ⊢
     cases hk:f4 k p with
     |false=>rw[hk] at h;exact ih x he h
     |true=>simp_all
  obtain⟨y,h1,h2⟩:=key ob x he2 h
  exact h2 (hR.obs p y h1)
 have key:∀(sl:Lab),Eqs (KI o n sl)->(cvT E w (gt sl k) (a.tmps.getD k undef)->cvT E w (gt (wnS o n sl) k) (a.tmps.getD k undef)):=by
  intro sl
  induction sl with
  |nil=>intro _ h;exact h
  |cons q r ih=>
   intro he h
   obtain⟨j,t⟩:=q
   obtain⟨h1,h2⟩:=dO (show Eqs (X6 o n t++KI o n r) from he)
   simp only[wnS,gt] at h ⊢
   cases hj:f4 j k with
   |false=>simp_all
   |true=>rw[hj] at h;exact X7 h1 h
 exact key sl he (hR.sl k)
theorem Vz{AQ:Exit->St->Prop}{e:Exit}{m:St}[c:Clo N AQ](hw:cM N s m)(h:AQ e m):AQ e s:=c.h _ _ _ hw h
def nlC:C->C
 | .nil=>.d ζ (.l [])
 |c=>c
def Uw:List C->List C
 |[]=>[]
 |c::cs=>nlC c::Uw cs
def nlT:T->T
 | .v (.c c)=>.v (.c (nlC c))
 | .v (.agg cs)=>.v (.agg (Uw cs))
 |t=>t
theorem QW{c:C}(h:cvC E w c u):cvC E w (nlC c) u:=by
 cases c with
 |nil=>
  have h:u= .slice ξ 0 0:=h
  subst h
  show rdD _ _ _ _
  rw[rdD]
  simp_all
 |_=>exact h
theorem FQ{E:Env}{w:World}:∀{cs:List C} {us:Lae},CV E w cs us->CV E w (Uw cs) us
 |[],[],h=>h
 |[],_::_,h=>h.elim
 |_::_,[],h=>h.elim
 |_::_,_::_,h=>⟨QW h.1,FQ h.2⟩
theorem Ta{ob:Laa}{t:T}(hk:gt sl k=t:=by exact rfl):cM N ⟨sl,ob,nx⟩ ⟨(k,nlT t)::sl,ob,nx⟩:=by
 intro cx E a w hR
 refine⟨E,hR.ok,hR.dom,hR.obs,λj=>?_,hR.dfr,hR.size,hR.td⟩
 by_cases hj:k=j
 .subst hj
  rw[cW]
  have:=hR.sl k
  rw[hk] at this
  cases t with
  |v v=>
   cases v with
   |c c=>exact QW this
   |agg cs=>obtain⟨arr,h1,h2⟩:=this;exact⟨arr,h1,FQ h2⟩
  |_=>exact this
 rw[cy _ _ hj];exact hR.sl j
theorem I4{o:Nat}{ob:Laa}(ho:go ob o=ς (.var ty cs):=by exact rfl):cM N ⟨sl,ob,nx⟩ ⟨sl,(o,.var ty (Uw cs))::ob,nx⟩:=by
 intro cx E a w hR
 refine⟨E,hR.ok,hR.dom,λp x h=>?_,hR.sl,hR.dfr,hR.size,hR.td⟩
 by_cases hp:o=p
 .subst hp
  rw[b9] at h;cases h
  obtain⟨b,c,arr,h1,h2,h3,h4⟩:=hR.obs o _ ho
  exact⟨b,c,arr,h1,h2,FQ h3,h4⟩
 rw[bG _ _ hp] at h;exact hR.obs p x h
def vT(o n:Nat):Lab->Option Lab
 |[]=>ς []
 |(k,.v (.c c))::r=>match vT o n r with
  |some r'=>match c with
   | .w q m=>bif f4 q o then ς ((k,.v (.c (.w q n)))::r') else ς ((k,.v (.c (.w q m)))::r')
   | .wn q m=>bif f4 q o then ς ((k,.v (.c (.wn q n)))::r') else ς ((k,.v (.c (.wn q m)))::r')
   |c=>ς ((k,.v (.c c))::r')
  |none=>ξ
 |(k,t)::r=>match vT o n r with
  |some r'=>ς ((k,wnT o n t)::r')
  |none=>ξ
theorem MS{o n:Nat}:∀{sl sl':Lab},vT o n sl=ς sl'->sl'=wnS o n sl
 |[],sl',h=>by simp[vT] at h;subst h;rfl
 |(k,t)::r,sl',h=>by
  cases hr:vT o n r with
  |none=>
   exfalso
   cases t with
   |v v=>cases v<;>simp[vT,hr] at h
   |tup vs=>simp[vT,hr] at h
   |any=>simp[vT,hr] at h
  |some r'=>
   have:=MS hr
   subst this
   cases t with
   |v v=>
    cases v with
    |c c=>
     cases c with
     |w q m=>
      simp only[vT,hr] at h
      simp only[wnS,wnT,wnC]
      grind
     |wn q m=>
      simp only[vT,hr] at h
      simp only[wnS,wnT,wnC]
      grind
     |_=>simp only[vT,hr] at h;cases h;rfl
    |agg cs=>simp only[vT,hr] at h;cases h;rfl
   |tup vs=>simp only[vT,hr] at h;cases h;rfl
   |any=>simp only[vT,hr] at h;cases h;rfl
def Du(o n:Nat):Laa->Option Laa
 |[]=>ς []
 |(k,.var t cs)::r=>match Du o n r with
  |some r'=>ς ((k,.var t (Tf o n cs))::r')
  |none=>ξ
 |p::r=>match Du o n r with
  |some r'=>ς (p::r')
  |none=>ξ
theorem MQ{o n:Nat}:∀{sl sl':Laa},Du o n sl=ς sl'->sl'=wnO o n sl
 |[],sl',h=>by simp[Du] at h;subst h;rfl
 |(k,t)::r,sl',h=>by
  cases hr:Du o n r with
  |none=>exfalso;cases t<;>simp[Du,hr] at h
  |some r'=>
   have:=MQ hr
   subst this
   cases t<;>simp only[Du,hr] at h<;>cases h<;>rfl
theorem gx{o:Nat}{ob:Laa}(hs:vT o n sl=ς sl':=by exact rfl)(ho:Du o n ob=ς ob':=by exact rfl)(he:Eqs (KI o n sl):=by repeat (first|exact θ|refine⟨by first|rfl|simp,?_⟩))(he2:Eqs (I7 o n ob):=by repeat (first|exact θ|refine⟨by first|rfl|simp,?_⟩)):cM N ⟨sl,ob,nx⟩ ⟨sl',ob',nx⟩:=by
 rw[MS hs,MQ ho];exact Td he he2
section
variable{P:Program}{N:Nat}{d:Tmp}{ty:TypeId}{ps:String}{af:Array Edge}{gd:Option (Nat×Bool)}{x y z:Operand}
def Env.mv(E:Env)(o q b c:Nat):Env:={E with r:=λl=>if l=q then ς (b,c) else if l=o then ξ else E.r l}
theorem HM{by_ o:Nat}{ys:Lad}{c:C}[ht:dB P t e sz by_](hrv:rsv o=η)(ho:go nob o=ς (.row e sz els g ζ))(hs:Src nob c ys gy)(hn:els.length=n)(hsz:∀e∈ys,e.length=sz)(hb:(n+ys.length)*by_<=140737488355328)(h63:n+ys.length<=9223372036854775807):
 AWK P ⟨ς d,.call ⟨.builtin .append,#[x,y],#[t,t]⟩,ty,ps,af,gd⟩ [(x,.v (.c (.w o n))),(y,.v (.c c))] nob (.v (.c (.w q (n+ys.length)))) [(q,.row e sz (els++ys) (g&&gy) ζ)] [] (ς o):=by
 intro cx E a w ok hne hnob hfr
 have hob:∀l x,go nob l=ς x->cB E w l x:=λl x h=>hnob l x (uR h)
 obtain⟨hq1,hq2⟩:=hfr q _ (.head _)
 have h1:cvT E w (.v (.c (.w o n))) (a.eval x):=hne x _ (.head _)
 have h2:cvT E w (.v (.c c)) (a.eval y):=hne y _ (.tail _ (.head _))
 obtain⟨b,cc,hr,hu⟩:=h1
 obtain⟨b',c',arr,hr',hh,ha,hlc,hmx,hes,hrd,hFm,_⟩:=hob o _ ho
 rw[hr] at hr';cases hr'
 have hF:=hFm rfl
 have hoq:o≠q:=λe=>by simp_all
 obtain⟨A,k,hv,hyk,hA⟩:=zg hob hs h2
 obtain⟨ii,zz,i1,i2,i3,i4,i5⟩:=ht.i
 have hbl:=(ok.rb o b cc hr)
 have hown:w.ownsRow 0 e sz (.slice (ς ⟨b,0,ξ⟩) n cc) n (arr.toList.take (n*sz)):=
  ⟨by simp_all,.inr ⟨b,cc,arr,rfl,Yu _,hh,by omega,hmx,ha,rfl⟩⟩
 have hsrc:∃news:Lae,news.length=ys.length*sz/\(∀u∈news,u.oneCell'=ζ)/\(∀(j:Nat) (xd:D),ys.flatten[j]?=ς xd->∃u,news[j]?=ς u/\rdD w (E.H gy) xd u)/\
  ∃v' w',(Builtin.append_ #[t,t] ty #[.slice (ς ⟨b,0,ξ⟩) n cc,.slice A ys.length k]).run P w= .ok v' w'/\w'.ownsRow 0 e sz v' (n+ys.length) (arr.toList.take (n*sz)++news)/\w.grownBy w' (ς b)/\v'≠.slice ξ 0 0/\(v'.ownBlock=ς b\/v'.ownBlock=ς w.heap.size):=by
  have hgood:∀ad,A=ς ad->∀news:Lae,news.length=ys.length*sz->(∀(j:Nat) (u:Value),news[j]?=ς u->w.cell? (ad.add j)=ς u)->(∀u∈news,u.oneCell'=ζ)->
   ∃v' w',(Builtin.append_ #[t,t] ty #[.slice (ς ⟨b,0,ξ⟩) n cc,.slice A ys.length k]).run P w= .ok v' w'/\w'.ownsRow 0 e sz v' (n+ys.length) (arr.toList.take (n*sz)++news)/\w.grownBy w' (ς b)/\v'≠.slice ξ 0 0/\(v'.ownBlock=ς b\/v'.ownBlock=ς w.heap.size):=by
   intro ad hAd news n1 n2 n3
   obtain⟨v',w',r1,r2,r3,r4,r5⟩:=run_append_own_at (P:=P) w 0 t ty e ii zz sz by_ ht.u i1 i4 i2 i3 i5 ht.p _ n _ hown ad ys.length k news n1 n2 n3 (by unfold maxLen;omega) hb (Yu _)
   exact⟨v',w',by simp_all,r2,r3,(λh=>by simp_all),r5⟩
  rcases hA with h0|⟨b2,off,rfl,hrd2⟩
  .subst h0
   refine⟨[],by simp,by simp,by simp,?_⟩
   cases A with
   |none=>exact⟨_,w,qh w ht.u i1 hown k,by simp_all,⟨rfl,rfl,rfl,Yj _,λ_ _ _=>rfl⟩,by simp,.inl rfl⟩
   |some ad=>simp_all
  obtain⟨us,q1,q2,q3,q4⟩:=qf (ew.1 hrd2)
  exact⟨us,by rw[q1,eX hsz],q3,q4,hgood _ rfl us (by rw[q1,eX hsz]) q2 q3⟩
 obtain⟨news,n1,n2,n3,v',w',r1,r2,r3,r4,r5⟩:=hsrc
 obtain⟨_,r2⟩:=r2
 rcases r2 with⟨rfl,_⟩|⟨bn,cap,cur,rfl,_,hhn,hcap,hcapm,hcur,htk⟩
 .simp_all
 unfold Oper.wp
 simp only[execOp,resolve,invoke,builtin,Sem.run_bind,Sem.run_pure,Result.andThen_ok,Zg,Yq,Y7,hu,hv,r1,Oper.upon_value]
 have hbn:bn=b\/bn=w.heap.size:=by simpa [Value.ownBlock] using r5
 have hsame:∀k,k<w.heap.size->k≠b->w'.heap[k]?=w.heap[k]?:=λk hk hne=>r3.block k hk (λe=>hne (by injection e))
 have hnF:¬E.F bn:=by
  rcases hbn with rfl|rfl
  .exact hF
  exact λh=>by have:=ok.fb _ h;omega
 have hbig:bn<w'.heap.size:=by
  rcases Yx bn w'.heap.size with h|h
  .exact h
  simp_all
 have hnew:∀l bl cl,l≠o->E.r l=ς (bl,cl)->bl≠bn:=by
  intro l bl cl hne hl e
  subst e
  rcases hbn with h|h
  .subst h;exact hne (ok.inj l o _ _ _ hl hr)
  have:=(ok.rb l bl cl hl).1;omega
 have hHb:∀g k,E.H g k->k≠b/\k<w.heap.size:=λg k hk=>⟨λe=>by subst e;cases g;exact hF hk;exact hF (ok.gf _ hk),ok.hb hk⟩
 have kH:∀(g:Bool) (k:Nat),E.H g k->w'.heap[k]?=w.heap[k]?:=λg k hk=>hsame k (hHb g k hk).2 (hHb g k hk).1
 have kI:∀(g:Bool) (k:Nat),E.H g k->(E.mv o q bn cap).H g k:=λ_ _ h=>h
 have hbnew:cx.w0.heap.size<=b:=by
  rcases hbl.2 with h|h
  .exact h
  simp_all
 have hmv:∀l bl cl,(E.mv o q bn cap).r l=ς (bl,cl)->(l=q/\bl=bn/\cl=cap)\/(l≠q/\l≠o/\E.r l=ς (bl,cl)):=by
  intro l bl cl hl
  simp only[Env.mv] at hl
  split at hl
  .simp_all
  simp_all
 refine⟨_,E.mv o q bn cap,rfl,⟨λk hk=>Yr (ok.fb k hk) r3.size,ok.gf,ok.gn,λl bl cl hl=>?_,λl l' bl cl cl' hl hl'=>?_,by rw[r3.os];exact ok.os,by rw[r3.tape];exact ok.tape,by rw[r3.output];exact ok.output,Y9 ok.size r3.size,λk hk hW=>?_,λl xx hv hl=>?_,ok.ff,λk hk hk'=>(ok.gc k hk hk').of_eq (hsame k (hHb η k hk).2 (hHb η k hk).1),ok.sf.turn hr rfl rfl (λ_ h=>.inl h) (λl bl cl hl=>?_) r3.size hsame⟩,
  ⟨λl xx hl hlr=>?_,λ_ h=>h,λ_ h=>h,λ_ h=>.inl h,λk hk _ hkl=>hsame k hk (λe=>hkl o cc rfl (e▸hr)),(λ_ _ _ _ h=>by cases h),λl bl cl hl hlr=>?_,rfl,rfl,rfl⟩,⟨bn,cap,by simp[Env.mv],rfl⟩,λl ob hm=>?_,(λ_ _ h=>by cases h),λl xx hl=>?_⟩
 .rcases hmv l bl cl hl with⟨_,rfl,rfl⟩|⟨_,_,hl⟩
  .omega
  have:=ok.rb l bl cl hl;grind
 .rcases hmv l bl cl hl with⟨h1,h2,h3⟩|⟨h1,h2,h3⟩<;>rcases hmv l' bl cl' hl' with⟨k1,k2,k3⟩|⟨k1,k2,k3⟩
  .omega
  .grind
  .grind
  exact ok.inj l l' bl cl cl' h3 k3
 .rw[hsame k oaa oaa];exact ok.block k hk hW
 .obtain⟨bl,cl⟩:=xx
  rcases hmv l bl cl hl with⟨rfl,_⟩|⟨_,_,hl⟩
  .rw[pk hq2] at hv;cases hv
  exact ok.pin l _ hv hl
 .grind
 .simp only[Env.mv]
  grind
 .grind
 .simp at hm;obtain⟨rfl,rfl⟩:=hm
  have hall:∀e'∈els++ys,e'.length=sz:=λe' he'=>by
   grind
  refine⟨bn,cap,cur,by simp[Env.mv],hhn,hcur,by simp;omega,hcapm,hall,?_,λ_=>hnF,λh=>by cases h⟩
  rw[ew]
  refine lO λj xd hj=>?_
  rw[Yl,d7 hhn]
  rw[Zb] at hj
  have hfl:els.flatten.length=n*sz:=by rw[eX hes,hn]
  have hxs:(arr.toList.take (n*sz)).length=n*sz:=by simp[ha];rw[Za oaa]
  have hcurj:∀u,(arr.toList.take (n*sz)++news)[j]?=ς u->cur[j]?=ς u:=by
   intro u hu
   rw[<-htk,YK] at hu
   split at hu
   .simp_all
   cases hu
  by_cases hjn:j<n*sz
  .rw[Yt oaa] at hj
   obtain⟨u,u1,u2⟩:=lc (ew.1 hrd) hj
   rw[Yl,d7 hh] at u1
   refine⟨u,hcurj u ?_,cm (kH _) (kI _) _ _ (mj ok u2 (by simp_all))⟩
   grind
  rw[Ys oaa,hfl] at hj
  obtain⟨u,u1,u2⟩:=n3 _ _ hj
  refine⟨u,hcurj u ?_,cm (kH _) (kI _) _ _ (mj ok u2 (by simp))⟩
  rw[Ys oaa,hxs]
  exact u1
 grind
theorem ui{by_:Nat}{ys:Lad}{c:C}[ht:dB P t e sz by_](hs:Src nob c ys gy)(hne0:ys≠[])(hsz:∀e∈ys,e.length=sz)(hb:ys.length*by_<=140737488355328)(h63:ys.length<=9223372036854775807){cx:Cx}(ok:da cx E w)(hob:∀l x,go nob l=ς x->cB E w l x)(hq1:E.r q=ξ)(hq2:rsv q=η)(hu:a.eval x= .slice ξ 0 0)(h2:cvT E w (.v (.c c)) (a.eval y)):
 Oper.wp P ⟨ς d,.call ⟨.builtin .append,#[x,y],#[t,t]⟩,ty,ps,af,gd⟩ a w (λa' w'=>∃v E',a'=a.put (ς d) v/\da cx E' w'/\Ext E w E' w'/\cvT E' w' (.v (.c (.w q ys.length))) v/\(∀l ob,(l,ob)∈[(q,Ob.row e sz ys gy ζ)]->cB E' w' l ob)/\
  (∀l x,E'.r l=ς x->E.r l=ς x\/∃ob,(l,ob)∈[(q,Ob.row e sz ys gy ζ)])) (λ_ _ _=>False):=by
 obtain⟨A,k,hv,hyk,hA⟩:=zg hob hs h2
 obtain⟨ii,zz,i1,i2,i3,i4,i5⟩:=ht.i
 have hown:=World.ownsRow_nil w 0 e sz
 rcases hA with h0|⟨b2,off,rfl,hrd2⟩
 .simp_all
 obtain⟨news,q1,q2,q3,n3⟩:=qf (ew.1 hrd2)
 have n1:news.length=ys.length*sz:=by rw[q1,eX hsz]
 obtain⟨v',w',r1,r2,r3,r4,r5⟩:=run_append_own_at (P:=P) w 0 t ty e ii zz sz by_ ht.u i1 i4 i2 i3 i5 ht.p _ 0 _ hown ⟨b2,off,ξ⟩ ys.length k news n1 q2 q3 (by unfold maxLen;omega) (by simp_all) (Yu _)
 have hnn:v'≠.slice ξ 0 0:=λh=>hne0 (YD (r4.1 h).2)
 obtain⟨_,r2⟩:=r2
 rcases r2 with⟨rfl,_⟩|⟨bn,cap,cur,rfl,_,hhn,hcap,hcapm,hcur,htk⟩
 .simp_all
 simp only[Yl,Y4] at r1 hcap htk hnn r4 r5
 unfold Oper.wp
 simp only[execOp,resolve,invoke,builtin,Sem.run_bind,Sem.run_pure,Result.andThen_ok,Zg,Yq,Y7,hu,hv,r1,Oper.upon_value]
 have hbn:bn=w.heap.size:=by simpa [Value.ownBlock] using r5
 have hsame:∀k,k<w.heap.size->w'.heap[k]?=w.heap[k]?:=λk hk=>r3.block k hk (λe=>by simp[Value.ownBlock] at e)
 have hnF:¬E.F bn:=λh=>by have:=ok.fb _ h;omega
 have hbig:bn<w'.heap.size:=by
  rcases Yx bn w'.heap.size with h|h
  .exact h
  simp_all
 have kH:∀(g:Bool) (k:Nat),E.H g k->w'.heap[k]?=w.heap[k]?:=λg k hk=>hsame k (ok.hb hk)
 have kI:∀(g:Bool) (k:Nat),E.H g k->(E.new q bn cap).H g k:=λ_ _ h=>h
 have hmv:∀l bl cl,(E.new q bn cap).r l=ς (bl,cl)->(l=q/\bl=bn/\cl=cap)\/(l≠q/\E.r l=ς (bl,cl)):=by
  intro l bl cl hl
  simp only[Env.new] at hl
  split at hl
  .simp_all
  simp_all
 refine⟨_,E.new q bn cap,rfl,⟨λk hk=>Yr (ok.fb k hk) r3.size,ok.gf,ok.gn,λl bl cl hl=>?_,λl l' bl cl cl' hl hl'=>?_,by rw[r3.os];exact ok.os,by rw[r3.tape];exact ok.tape,by rw[r3.output];exact ok.output,Y9 ok.size r3.size,λk hk hW=>?_,λl xx hv hl=>?_,ok.ff,λk hk hk'=>(ok.gc k hk hk').of_eq (hsame k (ok.fb k hk)),ok.sf.grow rfl rfl (λ_ h=>.inl h) (λl bl cl hl=>?_) r3.size hsame⟩,
  ⟨λl xx hlr=>?_,λ_ h=>h,λ_ h=>h,λ_ h=>.inl h,hsame,rfl,rfl,rfl⟩,⟨bn,cap,by simp[Env.new],rfl⟩,λl ob hm=>?_,λl xx hl=>?_⟩
 .rcases hmv l bl cl hl with⟨_,rfl,rfl⟩|⟨_,hl⟩
  .exact⟨hbig,.inl (by rw[hbn];exact ok.size)⟩
  have:=ok.rb l bl cl hl;grind
 .rcases hmv l bl cl hl with⟨h1,h2,h3⟩|⟨h1,h3⟩<;>rcases hmv l' bl cl' hl' with⟨k1,k2,k3⟩|⟨k1,k3⟩
  .omega
  .have:=(ok.rb l' bl cl' k3).1;omega
  .have:=(ok.rb l bl cl h3).1;omega
  exact ok.inj l l' bl cl cl' h3 k3
 .rw[hsame k (by have:=ok.size;omega)];exact ok.block k hk hW
 .obtain⟨bl,cl⟩:=xx
  rcases hmv l bl cl hl with⟨rfl,_⟩|⟨_,hl⟩
  .rw[pk hq2] at hv;cases hv
  exact ok.pin l _ hv hl
 .grind
 .simp only[Env.new]
  grind
 .simp at hm;obtain⟨rfl,rfl⟩:=hm
  refine⟨bn,cap,cur,by simp[Env.new],hhn,hcur,by omega,hcapm,hsz,?_,λ_=>hnF,λh=>by cases h⟩
  rw[ew]
  refine lO λj xd hj=>?_
  rw[Yl,d7 hhn]
  obtain⟨u,u1,u2⟩:=n3 _ _ hj
  refine⟨u,?_,cm (kH _) (kI _) _ _ u2⟩
  grind
 grind
theorem yA{by_:Nat}{ys:Lad}{c:C}[ht:dB P t e sz by_](hs:Src nob c ys gy)(hne0:ys≠[])(hsz:∀e∈ys,e.length=sz)(hb:ys.length*by_<=140737488355328)(h63:ys.length<=9223372036854775807):
 AWN P ⟨ς d,.call ⟨.builtin .append,#[x,y],#[t,t]⟩,ty,ps,af,gd⟩ [(x,.v (.c .nil)),(y,.v (.c c))] nob (.v (.c (.w q ys.length))) [(q,.row e sz ys gy ζ)]:=by
 intro cx E a w ok hne hnob hfr
 obtain⟨hq1,hq2⟩:=hfr q _ (.head _)
 exact ui hs hne0 hsz hb h63 ok (λl x h=>hnob l x (uR h)) hq1 hq2 (hne x _ (.head _)) (hne y _ (.tail _ (.head _)))
end
section
variable{P:Program}{N:Nat}{d:Tmp}{ty:TypeId}{ps:String}{af:Array Edge}{gd:Option (Nat×Bool)}{x y:Operand}{sl:Lab}{ob:Laa}{nx:Nat}{α:Type}{enc:α->List D}
theorem apx{by_ o:Nat}{ys zs:List α}{gg:Bool}{c:C}(ls:List Nat)[dB P t e sz by_](H:cN by_ (ys++zs).length=ζ)(hzd:zs.map enc=zd:=by exact rfl)(henc:∀a,(enc a).length=sz:=by exact λ_=>rfl)(hp:nM ob ls=ς nob:=by exact rfl)(hd:nlt d N=true:=by exact rfl)(hx:opT sl x= .v (.c (.w o n)):=by exact rfl)(hy:opT sl y= .v (.c c):=by exact rfl)(hn:ys.length=n:=by first|rfl|simp)(hs:Src nob c zd gy:=by first|exact .d|exact .nil|exact .w rfl (by first|rfl|exact lm _|simp)|exact .wn rfl (by first|rfl|exact lm _|simp))(ho:go nob o=ς (.row e sz (ys.map enc) g ζ):=by exact rfl)(hg:(g&&gy)=gg:=by exact rfl)(hrv:rsv o=false:=by exact rfl)(hnx:nxt nx=ς nx':=by exact rfl):
 NX P N ⟨ς d,.call ⟨.builtin .append,#[x,y],#[t,t]⟩,ty,ps,af,gd⟩ ⟨sl,ob,nx⟩ ⟨(d,.v (.c (.w nx (ys++zs).length)))::sl,(nx,.row e sz ((ys++zs).map enc) gg ζ)::ob,nx'⟩
  ⟨⟨d,[(x,.v (.c (.w o n))),(y,.v (.c c))],nob,.v (.c (.w nx (ys++zs).length)),[(nx,.row e sz ((ys++zs).map enc) gg ζ)]⟩,[],ς o⟩:=by
 subst hzd;subst hg
 simp only[cN,decide_eq_true_eq,YB] at H
 have:=HM (P:=P) (d:=d) (ty:=ty) (ps:=ps) (af:=af) (gd:=gd) (x:=x) (y:=y) (t:=t) (e:=e) (sz:=sz) (by_:=by_) (q:=nx) (n:=n) hrv ho hs (by simp_all) (B3 henc zs) (by simp_all) (by simp_all)
 rw[<-Y8,YA,<-hn,<-YB] at this
 exact⟨by simp_all,.inl ⟨rfl,cO hd⟩,⟨hx,hy,θ⟩,oE hp,mM hnx,rfl⟩
theorem Db{by_ o:Nat}{ys zs:List α}{c:C}(ls:List Nat)[dB P t e sz by_](H:cN by_ (ys++zs).length=ζ)(hzd:zs.map enc=zd:=by exact rfl)(henc:∀a,(enc a).length=sz:=by exact λ_=>rfl)(hfl:∀a,qO (enc a)=true:=by exact λ_=>rfl)(hp:nM ob ls=ς nob:=by exact rfl)(hd:nlt d N=true:=by exact rfl)(hx:opT sl x= .v (.c (.w o n)):=by exact rfl)(hy:opT sl y= .v (.c c):=by exact rfl)(hn:ys.length=n:=by first|rfl|simp)(hs:Src nob c zd gy:=by first|exact .d|exact .nil|exact .w rfl (by first|rfl|exact lm _|simp)|exact .wn rfl (by first|rfl|exact lm _|simp))(ho:go nob o=ς (.row e sz (ys.map enc) g ζ):=by exact rfl)(hrv:rsv o=false:=by exact rfl)(hnx:nxt nx=ς nx':=by exact rfl):
 NX P N ⟨ς d,.call ⟨.builtin .append,#[x,y],#[t,t]⟩,ty,ps,af,gd⟩ ⟨sl,ob,nx⟩ ⟨(d,.v (.c (.w nx (ys++zs).length)))::sl,(nx,.row e sz ((ys++zs).map enc) ζ ζ)::ob,nx'⟩
  ⟨⟨d,[(x,.v (.c (.w o n))),(y,.v (.c c))],nob,.v (.c (.w nx (ys++zs).length)),[(nx,.row e sz ((ys++zs).map enc) ζ ζ)]⟩,[],ς o⟩:=by
 obtain⟨h1,h2,h3,h4,h5,h6⟩:=apx (P:=P) (N:=N) (t:=t) (x:=x) (y:=y) (enc:=enc) (d:=d) (ty:=ty) (ps:=ps) (af:=af) (gd:=gd) (sl:=sl) (ob:=ob) (nx:=nx) ls H hzd henc hp hd hx hy hn hs ho rfl hrv hnx
 refine⟨?_,h2,h3,h4,mM hnx,rfl⟩
 intro cx E a w ok hne hnob hfr
 refine Oper.wp_mono ?_ (h1 cx E a w ok hne hnob (λl x hm=>by simp_all))
 rintro a' w' ⟨v,E',k1,k2,k3,k4,k5,k6,k7⟩
 refine⟨v,E',k1,k2,k3,k4,λl x hm=>?_,k6,λl x hl=>(k7 l x hl).imp id (λ⟨x',hm⟩=>by simp_all)⟩
 simp at hm;obtain⟨rfl,rfl⟩:=hm
 obtain⟨b,c,arr,j1,j2,j3,j4,j5,j6,j7,j8,j9⟩:=k5 _ _ (.head _)
 refine⟨b,c,arr,j1,j2,j3,by simp_all,j5,by simp_all,?_,j8,λh=>by cases h⟩
 have:rdLL w' (E'.H ζ) ((ys++zs).map enc) b 0:=wj (λe he=>by grind) j7
 simp_all
theorem apN{by_:Nat}{zs:List α}{c:C}(ls:List Nat)[dB P t e sz by_](H:cN by_ zs.length=ζ)(hne:zs≠[])(hzd:zs.map enc=zd)(henc:∀a,(enc a).length=sz)(hp:nM ob ls=ς nob)(hs:Src nob c zd gy)(hd:nlt d N=ζ)(hx:opT sl x= .v (.c .nil))(hy:opT sl y= .v (.c c))(hnx:nxt nx=ς nx'):
 NS P N ⟨ς d,.call ⟨.builtin .append,#[x,y],#[t,t]⟩,ty,ps,af,gd⟩ ⟨sl,ob,nx⟩ ⟨(d,.v (.c (.w nx zs.length)))::sl,(nx,.row e sz (zs.map enc) gy ζ)::ob,nx'⟩
  ⟨d,[(x,.v (.c .nil)),(y,.v (.c c))],nob,.v (.c (.w nx zs.length)),[(nx,.row e sz (zs.map enc) gy ζ)]⟩:=by
 subst hzd
 simp only[cN,decide_eq_true_eq] at H
 have:=yA (P:=P) (d:=d) (ty:=ty) (ps:=ps) (af:=af) (gd:=gd) (x:=x) (y:=y) (t:=t) (e:=e) (sz:=sz) (by_:=by_) (q:=nx) hs (by simp_all) (B3 henc zs) (by simp_all) (by simp_all)
 rw[YA] at this
 exact⟨this,rfl,cO hd,⟨hx,hy,θ⟩,oE hp,mM hnx,rfl⟩
end
theorem fP{o:Nat}{ob:Laa}{e:Lac}(ho:go ob o=ς (.var ty cs):=by exact rfl)(hv:Jv ob cs=ς (cs',e):=by exact rfl)(he:Eqs e:=by repeat (first|exact θ|refine⟨by first|rfl|exact lm _|simp,?_⟩)):cM N ⟨sl,ob,nx⟩ ⟨sl,(o,.var ty cs')::ob,nx⟩:=by
 intro cx E a w hR
 refine⟨E,hR.ok,hR.dom,λp x h=>?_,hR.sl,hR.dfr,hR.size,hR.td⟩
 by_cases hp:o=p
 .subst hp
  rw[b9] at h;cases h
  obtain⟨b,c,arr,h1,h2,h3,h4⟩:=hR.obs o _ ho
  exact⟨b,c,arr,h1,h2,Ff hR.obs hv he h3,h4⟩
 rw[bG _ _ hp] at h;exact hR.obs p x h
theorem wM{ob:Laa}(h:Yk nx nx'=ζ):cM N ⟨sl,ob,nx⟩ ⟨sl,ob,nx'⟩:=by
 intro cx E a w hR
 have:=YJ h
 exact⟨E,hR.ok,λo x ho=>Yr (hR.dom o x ho) this,hR.obs,hR.sl,hR.dfr,hR.size,λl b hb=>Yr (hR.td l b hb) this⟩
theorem da.setN{cx:Cx}(ok:da cx E w)(n:Nat->Prop):da cx {E with n:=n} w:=
 ⟨ok.fb,ok.gf,ok.gn,ok.rb,ok.inj,ok.os,ok.tape,ok.output,ok.size,ok.block,ok.pin,ok.ff,ok.gc,⟨ok.sf.tb,ok.sf.tt,ok.sf.zc,ok.sf.zs,ok.sf.ze⟩⟩
def oB(f:C->Option C):List C->Option (List C)
 |[]=>ς []
 |c::cs=>match f c,oB f cs with
  |some x,ς xs=>ς (x::xs)
  |_,_=>ξ
def FA(f:C->Option C):V->Option V
 | .c c=>match f c with
  |some x=>ς (.c x)
  |none=>ξ
 | .agg cs=>match oB f cs with
  |some x=>ς (.agg x)
  |none=>ξ
def Ae(f:C->Option C):List V->Option (List V)
 |[]=>ς []
 |c::cs=>match FA f c,Ae f cs with
  |some x,ς xs=>ς (x::xs)
  |_,_=>ξ
def wV(f:C->Option C):T->Option T
 | .v v=>match FA f v with
  |some x=>ς (.v x)
  |none=>ξ
 | .tup vs=>match Ae f vs with
  |some x=>ς (.tup x)
  |none=>ξ
 | .any=>ς .any
def tH(f:C->Option C):Lab->Option Lab
 |[]=>ς []
 |(k,t)::r=>match wV f t,tH f r with
  |some x,ς xs=>ς ((k,x)::xs)
  |_,_=>ξ
def sD(f:C->Option C)(g:Nat->Ob->Option Ob):Laa->Option Laa
 |[]=>ς []
 |(k,.var t cs)::r=>match oB f cs,sD f g r with
  |some x,ς xs=>ς ((k,.var t x)::xs)
  |_,_=>ξ
 |(k,.row t sz els gg m)::r=>match g k (.row t sz els gg m),sD f g r with
  |some x,ς xs=>ς ((k,x)::xs)
  |_,_=>ξ
 |(k,.rown t sz els gg)::r=>match g k (.rown t sz els gg),sD f g r with
  |some x,ς xs=>ς ((k,x)::xs)
  |_,_=>ξ
 |(k,.abs j y)::r=>match g k (.abs j y),sD f g r with
  |some x,ς xs=>ς ((k,x)::xs)
  |_,_=>ξ
section
variable{f:C->Option C}{E E':Env}{w w':World}(hf:∀c c' u,f c=ς c'->cvC E w c u->cvC E' w' c' u)
include hf
theorem sC:∀{cs cs':List C} {us:Lae},oB f cs=ς cs'->CV E w cs us->CV E' w' cs' us
 |[],cs',us,h,hc=>by
  simp[oB] at h;subst h
  cases us with
  |nil=>trivial
  |cons _ _=>exact hc.elim
 |c::cs,cs',us,h,hc=>by
  cases us with
  |nil=>exact hc.elim
  |cons u us=>
   simp only[oB] at h
   split at h
   .rename_i h1 h2;simp at h;subst h;exact⟨hf _ _ _ h1 hc.1,sC h2 hc.2⟩
   cases h
theorem LH{v v':V}(h:FA f v=ς v')(hv:cvV E w v u):cvV E' w' v' u:=by
 cases v with
 |c c=>
  simp only[FA] at h
  split at h
  .rename_i h1;simp at h;subst h;exact hf _ _ _ h1 hv
  cases h
 |agg cs=>
  simp only[FA] at h
  split at h
  .rename_i h1;simp at h;subst h;obtain⟨arr,hu,hc⟩:=hv;exact⟨arr,hu,sC hf h1 hc⟩
  cases h
theorem HU:∀{cs cs':List V} {us:Lae},Ae f cs=ς cs'->VV E w cs us->VV E' w' cs' us
 |[],cs',us,h,hc=>by
  simp[Ae] at h;subst h
  cases us with
  |nil=>trivial
  |cons _ _=>exact hc.elim
 |c::cs,cs',us,h,hc=>by
  cases us with
  |nil=>exact hc.elim
  |cons u us=>
   simp only[Ae] at h
   split at h
   .rename_i h1 h2;simp at h;subst h;exact⟨LH hf h1 hc.1,HU h2 hc.2⟩
   cases h
theorem yy{v v':T}(h:wV f v=ς v')(hv:cvT E w v u):cvT E' w' v' u:=by
 cases v with
 |v v=>
  simp only[wV] at h
  split at h
  .rename_i h1;simp at h;subst h;exact LH hf h1 hv
  cases h
 |tup vs=>
  simp only[wV] at h
  split at h
  .rename_i h1;simp at h;subst h;obtain⟨arr,hu,hc⟩:=hv;exact⟨arr,hu,HU hf h1 hc⟩
  cases h
 |any=>simp[wV] at h;subst h;trivial
theorem yx{k:Nat}{u:Value}:∀{sl sl':Lab},tH f sl=ς sl'->cvT E w (gt sl k) u->cvT E' w' (gt sl' k) u
 |[],sl',h,_=>by simp[tH] at h;subst h;trivial
 |(j,t)::r,sl',h,hc=>by
  simp only[tH] at h
  split at h
  .rename_i h1 h2
   simp at h;subst h
   by_cases hj:j=k
   .subst hj;rw[cW] at hc ⊢;exact yy hf h1 hc
   rw[cy _ _ hj] at hc ⊢;exact yx h2 hc
  cases h
end
theorem tG{f:C->Option C}{g:Nat->Ob->Option Ob}{l:Nat}{y:Ob}:∀{ob ob':Laa},sD f g ob=ς ob'->go ob' l=ς y->
 (∃t cs cs',go ob l=ς (.var t cs)/\oB f cs=ς cs'/\y= .var t cs')\/(∃x,go ob l=ς x/\(∀t cs,x≠.var t cs)/\g l x=ς y)
 |[],ob',h,hy=>by simp[sD] at h;subst h;cases hy
 |(k,x)::r,ob',h,hy=>by
  cases x with
  |var t cs=>
   simp only[sD] at h
   split at h
   .rename_i h1 h2
    simp at h;subst h
    by_cases hk:k=l
    .subst hk;rw[b9] at hy ⊢;grind
    rw[bG _ _ hk] at hy ⊢;exact tG h2 hy
   cases h
  |row t sz els gg m=>
   simp only[sD] at h
   split at h
   .rename_i h1 h2
    simp at h;subst h
    by_cases hk:k=l
    .subst hk;rw[b9] at hy ⊢;simp_all
    rw[bG _ _ hk] at hy ⊢;exact tG h2 hy
   cases h
  |rown t sz els gg=>
   simp only[sD] at h
   split at h
   .rename_i h1 h2
    simp at h;subst h
    by_cases hk:k=l
    .subst hk;rw[b9] at hy ⊢;simp_all
    rw[bG _ _ hk] at hy ⊢;exact tG h2 hy
   cases h
  |abs j z=>
   simp only[sD] at h
   split at h
   .rename_i h1 h2
    simp at h;subst h
    by_cases hk:k=l
    .subst hk;rw[b9] at hy ⊢;simp_all
    rw[bG _ _ hk] at hy ⊢;exact tG h2 hy
   cases h
def IX(o:Nat):C->Option C
 | .w l n=>match f4 l o with
  |true=>ς (.wn l n)
  |false=>ς (.w l n)
 | .wn l n=>match f4 l o with
  |true=>ς .any
  |false=>ς (.wn l n)
 |c=>ς c
def OC(o:Nat)(k:Nat):Ob->Option Ob
 | .row t sz els g ζ=>match f4 k o with
  |true=>ς (.rown t sz els g)
  |false=>ς (.row t sz els g ζ)
 |x=>ς x
theorem fE{rt:Nat}{ob:Laa}(o:Nat)(ho:go ob o=ς (.row rt sz els g ζ):=by exact rfl)(hs:tH (IX o) sl=ς sl':=by exact rfl)(hb:sD (IX o) (OC o) ob=ς ob':=by exact rfl):cM N ⟨sl,ob,nx⟩ ⟨sl',ob',nx⟩:=by
 intro cx E a w hR
 have hf:∀c c' u,IX o c=ς c'->cvC E w c u->cvC {E with n:=λl=>l≠o/\E.n l} w c' u:=by
  intro c c' u h hc
  cases c with
  |w l n=>
   simp only[IX] at h
   split at h
   .rename_i hb
    have:=Yf hb
    subst this
    cases h
    exact .inr ⟨λh=>h.1 rfl,hc⟩
   cases h;exact hc
  |wn l n=>
   simp only[IX] at h
   split at h
   .cases h;trivial
   rename_i hb
   have:=iN hb
   cases h
   rcases hc with⟨h1,h2⟩|⟨h1,h2⟩
   .exact .inl ⟨⟨this,h1⟩,h2⟩
   exact .inr ⟨λh=>h1 h.2,h2⟩
  |_=>simp only[IX] at h;cases h;exact hc
 refine⟨{E with n:=λl=>l≠o/\E.n l},hR.ok.setN _,hR.dom,λl y hl=>?_,λk=>yx hf hs (hR.sl k),hR.dfr,hR.size,hR.td⟩
 rcases tG hb hl with⟨t,cs,cs',h1,h2,rfl⟩|⟨x,h1,h2,h3⟩
 .obtain⟨b,c,arr,k1,k2,k3,k4⟩:=hR.obs l _ h1
  exact⟨b,c,arr,k1,k2,sC hf h2 k3,k4⟩
 have hx:=hR.obs l x h1
 cases x with
 |var t cs=>simp_all
 |row t sz els g m=>
  cases m with
  |true=>
   simp only[OC] at h3
   split at h3
   .rename_i hb
    have:=Yf hb
    subst this
    cases h3
    obtain⟨b,c,arr,k1,k2,k3,k4,k5,k6,k7,k8,_⟩:=hx
    exact .inr ⟨λh=>h.1 rfl,b,c,arr,k1,k2,k3,k4,k5,k6,k7,k8 rfl⟩
   cases h3;exact hx
  |false=>simp only[OC] at h3;cases h3;exact hx
 |rown t sz els g=>
  simp only[OC] at h3
  cases h3
  have hlo:l≠o:=λe=>by simp_all
  rcases hx with⟨k1,k2⟩|⟨k1,k2⟩
  .exact .inl ⟨⟨hlo,k1⟩,k2⟩
  exact .inr ⟨λh=>k1 h.2,k2⟩
 |abs j y=>
  simp only[OC] at h3
  cases h3
  have hlo:l≠o:=λe=>by simp_all
  rcases hx with⟨k1,k2⟩|⟨k1,k2⟩
  .exact .inl ⟨⟨hlo,k1⟩,k2⟩
  exact .inr ⟨λh=>k1 h.2,k2⟩
def Gz(o:Nat):C->Option C
 | .wn l n=>match f4 l o with
  |true=>ς (.w l n)
  |false=>ς (.wn l n)
 |c=>ς c
def OE(o:Nat)(k:Nat):Ob->Option Ob
 | .rown t sz els g=>match f4 k o with
  |true=>ς (.row t sz els g ζ)
  |false=>ς (.rown t sz els g)
 |x=>ς x
theorem jL{ty:Nat}{ob:Laa}(o:Nat)(ho:go ob o=ς (.rown ty sz els g):=by exact rfl)(hne:els≠[])(hs:tH (Gz o) sl=ς sl':=by exact rfl)(hb:sD (Gz o) (OE o) ob=ς ob':=by exact rfl):cM N ⟨sl,ob,nx⟩ ⟨sl',ob',nx⟩:=by
 intro cx E a w hR
 have hn:¬E.n o:=by
  rcases hR.obs o _ ho with⟨_,h⟩|⟨h,_⟩
  .simp_all
  exact h
 have hf:∀c c' u,Gz o c=ς c'->cvC E w c u->cvC E w c' u:=by
  intro c c' u h hc
  cases c with
  |wn l n=>
   simp only[Gz] at h
   split at h
   .rename_i hb
    have:=Yf hb
    subst this
    cases h
    rcases hc with⟨h1,_⟩|⟨_,h2⟩
    .simp_all
    exact h2
   simp_all
  |_=>simp only[Gz] at h;simp_all
 refine⟨E,hR.ok,hR.dom,λl y hl=>?_,λk=>yx hf hs (hR.sl k),hR.dfr,hR.size,hR.td⟩
 rcases tG hb hl with⟨t,cs,cs',h1,h2,rfl⟩|⟨x,h1,h2,h3⟩
 .obtain⟨b,c,arr,k1,k2,k3,k4⟩:=hR.obs l _ h1
  exact⟨b,c,arr,k1,k2,sC hf h2 k3,k4⟩
 have hx:=hR.obs l x h1
 cases x with
 |var t cs=>simp_all
 |row t sz els g m=>simp only[OE] at h3;simp_all
 |rown t sz els g=>
  simp only[OE] at h3
  split at h3
  .rename_i hb
   have:=Yf hb
   subst this
   cases h3
   rcases hx with⟨k1,k2⟩|⟨_,b,c,arr,k1,k2,k3,k4,k5,k6,k7,k8⟩
   .simp_all
   exact⟨b,c,arr,k1,k2,k3,k4,k5,k6,k7,λ_=>k8,λh=>by cases h⟩
  simp_all
 |abs j y=>simp only[OE] at h3;simp_all
def wY(n:Nat):Lab->Bool
 |[]=>ζ
 |(_,t)::r=>t.lt n&&wY n r
def qR(n:Nat):Laa->Bool
 |[]=>ζ
 |(l,x)::r=>(nlt l n&&x.lt n)&&qR n r
theorem MD{n:Nat}:∀{sl:Lab} (k:Nat),wY n sl=ζ->(gt sl k).lt n=ζ
 |[],k,_=>rfl
 |(j,t)::r,k,h=>by
  simp only[wY,hV] at h
  by_cases hj:j=k
  .subst hj;rw[cW];exact h.1
  rw[cy _ _ hj];exact MD k h.2
theorem vc{n:Nat}:∀{ob:Laa} {l:Nat} {x:Ob},qR n ob=ζ->go ob l=ς x->l<n/\x.lt n=ζ
 |(k,y)::r,l,x,h,hl=>by
  simp only[qR,hV] at h
  by_cases hk:k=l
  .subst hk;rw[b9] at hl;cases hl;exact⟨cO h.1.1,h.1.2⟩
  rw[bG _ _ hk] at hl;exact vc h.2 hl
section
variable{E:Env}{w:World}{n:Nat}{p:Nat->Prop}(hp:∀l,l<n->(p l↔E.n l))
include hp
theorem G7{c:C}(hl:c.lt n=ζ)(h:cvC E w c u):cvC {E with n:=p} w c u:=by
 cases c with
 |wn o m=>
  have:=hp o (cO hl)
  rcases h with⟨h1,h2⟩|⟨h1,h2⟩
  .exact .inl ⟨this.2 h1,h2⟩
  exact .inr ⟨λk=>h1 (this.1 k),h2⟩
 |_=>exact h
theorem EI:∀{cs:List C} {us:Lae},cs.all (C.lt n)=ζ->CV E w cs us->CV {E with n:=p} w cs us
 |[],[],_,_=>trivial
 |c::cs,u::us,hl,h=>by
  simp only[Yy,hV] at hl
  exact⟨G7 hp hl.1 h.1,EI hl.2 h.2⟩
 |[],_::_,_,h=>h.elim
 |_::_,[],_,h=>h.elim
theorem G8{v:V}(hl:v.lt n=ζ)(h:cvV E w v u):cvV {E with n:=p} w v u:=by
 cases v with
 |c c=>exact G7 hp hl h
 |agg cs=>obtain⟨arr,hu,h⟩:=h;exact⟨arr,hu,EI hp hl h⟩
theorem KN:∀{cs:List V} {us:Lae},cs.all (V.lt n)=ζ->VV E w cs us->VV {E with n:=p} w cs us
 |[],[],_,_=>trivial
 |c::cs,u::us,hl,h=>by
  simp only[Yy,hV] at hl
  exact⟨G8 hp hl.1 h.1,KN hl.2 h.2⟩
 |[],_::_,_,h=>h.elim
 |_::_,[],_,h=>h.elim
theorem Pu{t:T}(hl:t.lt n=ζ)(h:cvT E w t u):cvT {E with n:=p} w t u:=by
 cases t with
 |v v=>exact G8 hp hl h
 |tup ts=>obtain⟨arr,hu,h⟩:=h;exact⟨arr,hu,KN hp hl h⟩
 |any=>trivial
theorem J6{o:Nat}(ho:o<n)(hl:x.lt n=ζ)(h:cB E w o x):cB {E with n:=p} w o x:=by
 cases x with
 |var t cs=>obtain⟨b,c,arr,k1,k2,k3,k4⟩:=h;exact⟨b,c,arr,k1,k2,EI hp hl k3,k4⟩
 |row t sz els g m=>exact h
 |rown t sz els g=>
  rcases h with⟨h1,h2⟩|⟨h1,h2⟩
  .exact .inl ⟨(hp o ho).2 h1,h2⟩
  exact .inr ⟨λk=>h1 ((hp o ho).1 k),h2⟩
 |abs j y=>
  rcases h with⟨h1,h2⟩|⟨h1,h2⟩
  .exact .inl ⟨(hp o ho).2 h1,h2⟩
  exact .inr ⟨λk=>h1 ((hp o ho).1 k),h2⟩
end
theorem J7{ty sz:Nat}{g:Bool}{ob:Laa}(hs:wY nx sl=ζ)(hb:qR nx ob=ζ)(hq:nxt nx=ς nx'){cx:Cx}(hR:Rel N cx E ⟨sl,ob,nx⟩ a w):
 Rel N cx {E with n:=λl=>l=nx\/E.n l} ⟨sl,(nx,.rown ty sz [] g)::ob,nx'⟩ a w:=by
 have hp:∀l,l<nx->((l=nx\/E.n l)↔E.n l):=λl h=>⟨λk=>k.resolve_left oaa,.inr⟩
 have hn:nx'=nx+1:=by
  unfold nxt at hq
  cases hr:rsv nx with
  |true=>simp_all
  |false=>simp_all
 refine⟨hR.ok.setN _,λo x h=>by have:=hR.dom o x h;grind,λl x hl=>?_,λk=>Pu hp (MD k hs) (hR.sl k),hR.dfr,hR.size,λl b h=>by have:=hR.td l b h;grind⟩
 by_cases e:nx=l
 .subst e;rw[b9] at hl;cases hl;exact .inl ⟨.inl rfl,rfl⟩
 rw[bG _ _ e] at hl
 obtain⟨h1,h2⟩:=vc hb hl
 exact J6 hp h1 h2 (hR.obs l x hl)
theorem Tc{ob:Laa}(ty sz:Nat)(g:Bool)(hk:gt sl k= .v (.c .nil):=by exact rfl)(hs:wY nx sl=true:=by exact rfl)(hb:qR nx ob=true:=by exact rfl)(hq:nxt nx=ς nx':=by exact rfl):
 cM N ⟨sl,ob,nx⟩ ⟨(k,.v (.c (.wn nx 0)))::sl,(nx,.rown ty sz [] g)::ob,nx'⟩:=by
 intro cx E a w hR
 have h:=J7 (ty:=ty) (sz:=sz) (g:=g) hs hb hq hR
 refine⟨_,h.ok,h.dom,h.obs,λj=>?_,h.dfr,h.size,h.td⟩
 by_cases e:k=j
 .subst e
  rw[cW]
  have:=hR.sl k
  rw[hk] at this
  exact .inl ⟨.inl rfl,rfl,this⟩
 rw[cy _ _ e];exact h.sl j
def Ay:Nat->C->List C->Option (List C)
 |0,x,.nil::cs=>ς (x::cs)
 |j+1,x,c::cs=>match Ay j x cs with
  |some r=>ς (c::r)
  |none=>ξ
 |_,_,_=>ξ
theorem yT{E E':Env}{w:World}{x:C}(hx:cvC E' w x (.slice ξ 0 0)):∀{j:Nat} {cs cs':List C} {us:Lae},Ay j x cs=ς cs'->CV E w cs us->CV E' w cs us->CV E' w cs' us
 |0,.nil::cs,cs',us,h,h1,h2=>by
  simp[Ay] at h;subst h
  cases us with
  |nil=>exact h1.elim
  |cons u us=>have:u= .slice ξ 0 0:=h1.1;subst this;exact⟨hx,h2.2⟩
 |j+1,c::cs,cs',us,h,h1,h2=>by
  simp only[Ay] at h
  split at h
  .rename_i h3
   simp at h;subst h
   cases us with
   |nil=>exact h1.elim
   |cons u us=>exact⟨h2.1,yT hx h3 h1.2 h2.2⟩
  cases h
theorem Tb{ob:Laa}(ty sz:Nat)(g:Bool)(hk:gt sl k= .v (.agg cs):=by exact rfl)(hj:Ay j (.wn nx 0) cs=ς cs':=by exact rfl)(hs:wY nx sl=true:=by exact rfl)(hb:qR nx ob=true:=by exact rfl)(hq:nxt nx=ς nx':=by exact rfl):
 cM N ⟨sl,ob,nx⟩ ⟨(k,.v (.agg cs'))::sl,(nx,.rown ty sz [] g)::ob,nx'⟩:=by
 intro cx E a w hR
 have h:=J7 (ty:=ty) (sz:=sz) (g:=g) hs hb hq hR
 refine⟨_,h.ok,h.dom,h.obs,λi=>?_,h.dfr,h.size,h.td⟩
 by_cases e:k=i
 .subst e
  rw[cW]
  have h1:=hR.sl k
  have h2:=h.sl k
  rw[hk] at h1 h2
  obtain⟨arr,hu,h1⟩:=h1
  obtain⟨arr',hu',h2⟩:=h2
  rw[hu] at hu';cases hu'
  exact⟨arr,hu,yT (x:=.wn nx 0) (Or.inl ⟨Or.inl rfl,rfl,rfl⟩) hj h1 h2⟩
 rw[cy _ _ e];exact h.sl i
theorem eo{o:Nat}{ob:Laa}{vt:TypeId}(ty sz:Nat)(g:Bool)(ho:go ob o=ς (.var vt cs):=by exact rfl)(hj:Ay j (.wn nx 0) cs=ς cs':=by exact rfl)(hs:wY nx sl=true:=by exact rfl)(hb:qR nx ob=true:=by exact rfl)(hq:nxt nx=ς nx':=by exact rfl):
 cM N ⟨sl,ob,nx⟩ ⟨sl,(o,.var vt cs')::(nx,.rown ty sz [] g)::ob,nx'⟩:=by
 intro cx E a w hR
 have h:=J7 (ty:=ty) (sz:=sz) (g:=g) hs hb hq hR
 refine⟨_,h.ok,h.dom,λl x hl=>?_,h.sl,h.dfr,h.size,h.td⟩
 by_cases e:o=l
 .subst e
  rw[b9] at hl;cases hl
  have hne:nx≠o:=λe=>by have:=(vc hb ho).1;omega
  have h2:=h.obs o (.var vt cs) (by rw[bG _ _ hne];exact ho)
  obtain⟨b,c,arr,k1,k2,k3,k4⟩:=hR.obs o _ ho
  obtain⟨b',c',arr',m1,m2,m3,m4⟩:=h2
  have k1':E.r o=ς (b',c'):=m1
  rw[k1] at k1';cases k1'
  rw[k2] at m2;cases m2
  exact⟨b,c,arr,k1,k2,yT (x:=.wn nx 0) (Or.inl ⟨Or.inl rfl,rfl,rfl⟩) hj k3 m3,k4⟩
 rw[bG _ _ e] at hl;exact h.obs l x hl
section
variable{P:Program}{N:Nat}{d:Tmp}{ty:TypeId}{ps:String}{af:Array Edge}{gd:Option (Nat×Bool)}{x y z:Operand}{sl:Lab}{ob:Laa}{nx:Nat}
theorem QM{d:Option Tmp}{o by_:Nat}[ht:dB P t e sz by_]:AWN P ⟨d,.call ⟨.builtin .len,#[x],#[t]⟩,ty,ps,af,gd⟩ [(x,.v (.c (.wn o n)))] [] (tI n) []:=
 cd λE ac w hn _=>by
  rcases hn x _ (.head _) with⟨_,h0,hu⟩|⟨_,b,c,hr,hu⟩
  .subst h0;exact⟨_,by simp[execOp,resolve,invoke,builtin,hu,Builtin.len_,underlying,ht.u,goInt];rfl,by rfl⟩
  exact⟨_,by simp[execOp,resolve,invoke,builtin,hu,Builtin.len_,underlying,ht.u,goInt];rfl,by rfl⟩
theorem lwn{o by_:Nat}[dB P t e sz by_](hx:opT sl x= .v (.c (.wn o n)))(hN:nlt d N=ζ):NS0 P N ⟨ς d,.call ⟨.builtin .len,#[x],#[t]⟩,ty,ps,af,gd⟩ sl ob nx d (tI n) ⟨d,[(x,.v (.c (.wn o n)))],[],tI n,[]⟩:=dh (st:=⟨sl,ob,nx⟩) QM rfl hN ⟨hx,θ⟩ trivial rfl
theorem H5{by_ o:Nat}{ys:Lad}{c:C}[ht:dB P t e sz by_](hrv:rsp o=η)(hnv:rsv st.nx=η)(hd:d<N)(hx:opT st.sl x= .v (.c (.wn o n)))(hy:opT st.sl y= .v (.c c))(ho:go st.ob o=ς (.rown e sz els g))(hs:Src st.ob c ys gy)(hk:mf o st.sl=ς sl')(hkb:kt o st.ob=ς ob')(hn:els.length=n)(hne:ys≠[])(hol:o<st.nx)(hsz:∀e∈ys,e.length=sz)(hb:(n+ys.length)*by_<=140737488355328)(h63:n+ys.length<=9223372036854775807):
 AWO P N ⟨ς d,.call ⟨.builtin .append,#[x,y],#[t,t]⟩,ty,ps,af,gd⟩ st ⟨(d,.v (.c (.w o (n+ys.length))))::sl',(o,.row e sz (els++ys) (g&&gy) ζ)::ob',st.nx⟩:=by
 intro cx E a w hR
 have h1:=hR.op x;rw[hx] at h1
 have h2:=hR.op y;rw[hy] at h2
 have h3:=hR.obs o _ ho
 rcases h1 with⟨hE,h0,hu⟩|⟨hE,b,cc,hr,hu⟩
 .subst h0
  have hels:els=[]:=YD hn
  subst hels
  have hq1:E.r st.nx=none:=by
   cases hq:E.r st.nx with
   |none=>rfl
   |some p=>have:=hR.dom _ _ hq;omega
  have hoq:o≠st.nx:=by omega
  refine Oper.wp_mono ?_ (ui (P:=P) (d:=d) (ty:=ty) (ps:=ps) (af:=af) (gd:=gd) (t:=t) (q:=st.nx) hs hne hsz (by simp_all) oaa hR.ok hR.obs hq1 hnv hu h2)
  rintro a' w' ⟨v,E1,rfl,ok1,ext,hv,hob1,hdom⟩
  obtain⟨bn,cap,hrq,hvu⟩:=hv
  obtain⟨bn',cap',arr,hrq',hhn,j3,j4,j5,j6,j7,j8,_⟩:=hob1 _ _ (.head _)
  rw[hrq] at hrq';cases hrq'
  have hrE:∀l p,E1.r l=ς p->l=st.nx\/E.r l=ς p:=λl p h=>by
   grind
  let E2:Env:={E1 with r:=λl=>if l=o then ς (bn,cap) else if l=st.nx then ξ else E1.r l,n:=λl=>l≠o/\E.n l}
  have hr2:∀l b c,E2.r l=ς (b,c)->(l=o/\b=bn/\c=cap)\/(l≠o/\l≠st.nx/\E1.r l=ς (b,c)):=by
   intro l b c h
   have h:(if l=o then ς (bn,cap) else if l=st.nx then ξ else E1.r l)=ς (b,c):=h
   split at h
   .simp_all
   simp_all
  have hback:∀l b c,E2.r l=ς (b,c)->∃l',E1.r l'=ς (b,c):=by
   intro l b c h
   rcases hr2 l b c h with⟨_,rfl,rfl⟩|⟨_,_,h⟩
   .grind
   grind
  have ok2:da cx E2 w':=by
   refine⟨ok1.fb,ok1.gf,ok1.gn,λl b c h=>?_,λl l' b c c' h h'=>?_,ok1.os,ok1.tape,ok1.output,ok1.size,ok1.block,λl p hv h=>?_,ok1.ff,ok1.gc,⟨λl b h=>?_,ok1.sf.tt,λb h=>?_,ok1.sf.zs,ok1.sf.ze⟩⟩
   .rcases hr2 l b c h with⟨_,rfl,rfl⟩|⟨_,_,h⟩
    .obtain⟨k1,k2⟩:=ok1.rb _ _ _ hrq
     simp_all
    exact ok1.rb l b c h
   .rcases hr2 l b c h with⟨rfl,rfl,rfl⟩|⟨k1,k2,k3⟩<;>rcases hr2 l' _ c' h' with⟨rfl,e1,e2⟩|⟨m1,m2,m3⟩
    .rfl
    .exact absurd (ok1.inj _ _ _ _ _ m3 hrq) m2
    .subst e1;exact absurd (ok1.inj _ _ _ _ _ k3 hrq) k2
    exact ok1.inj _ _ _ _ _ k3 m3
   .obtain⟨b,c⟩:=p
    rcases hr2 l b c h with⟨rfl,_⟩|⟨_,_,h⟩
    .simp_all
    exact ok1.pin l _ hv h
   .obtain⟨k1,k2,k3,k4⟩:=ok1.sf.tb l b h
    grind
   obtain⟨k1,k2,k3,k4⟩:=ok1.sf.zc b h
   grind
  have kp:=jV.of_ext hR.ok ext
  have kb:mw o E w E2 w':=⟨λl p hl h=>by
   show(if l=o then ς (bn,cap) else if l=st.nx then ξ else E1.r l)=ς p
   rw[if_neg hl,if_neg (λe=>by simp_all)]
   exact kp.r _ _ h,kp.H,kp.heap,kp.T,kp.Z,λl hl=>⟨λh=>h.2,λh=>⟨hl,h⟩⟩⟩
  have hFb:∀b,b<w.heap.size->¬E.F b->¬E2.F b:=λb hb hn h=>(ext.F' b h).elim hn oaa
  refine⟨E2,ok2,λl p h=>?_,λl ob hl=>?_,λk=>?_,hR.dfr,by simpa [Act.put] using hR.size,λl b h=>hR.td l b (by rw[<-ext.T];exact h)⟩
  .obtain⟨b,c⟩:=p
   rcases hr2 l b c h with⟨rfl,_⟩|⟨_,k2,h⟩
   .exact hol
   rcases hrE _ _ h with h|h
   .omega
   exact hR.dom _ _ h
  .by_cases hlo:o=l
   .subst hlo
    rw[b9] at hl;cases hl
    refine⟨bn,cap,arr,by grind,hhn,j3,by simp_all,j5,by simp_all,?_,λ_=>j8 rfl,λh=>by cases h⟩
    simp only[Y4]
    exact cf (λ_ _=>rfl) (λb hb=>by cases g<;>cases gy<;>first|exact hb|exact ok1.gf b hb) rfl _ _ j7
   rw[bG _ _ hlo] at hl
   rcases sx hkb hl with⟨t',cs,cs',k1,k2,rfl⟩|⟨t',sz',els',g',m',k1,rfl⟩|⟨t',sz',els',g',k1,rfl⟩|⟨j',y',k1,rfl⟩
   .obtain⟨bl,cl,arrl,l1,l2,l3,l4⟩:=hR.obs l _ k1
    have hbl:=(hR.ok.rb _ _ _ l1).1
    exact⟨bl,cl,arrl,kb.r _ _ (Ne.symm hlo) l1,(ext.heap bl hbl).trans l2,wr kb k2 l3,hFb bl hbl l4⟩
   .obtain⟨bl,cl,arrl,l1,l2,l3,l4,l5,l6,l7,l8,l9⟩:=hR.obs l _ k1
    have hbl:=(hR.ok.rb _ _ _ l1).1
    have hb2:=ext.heap bl hbl
    exact⟨bl,cl,arrl,kb.r _ _ (Ne.symm hlo) l1,hb2.trans l2,l3,l4,l5,l6,cf (kb.heap _) (kb.H _) hb2 _ _ l7,λhm=>hFb bl hbl (l8 hm),λhm=>⟨kb.H η _ (l9 hm).1,λhg=>kb.H ζ _ ((l9 hm).2 hg)⟩⟩
   .rcases hR.obs l _ k1 with⟨m1,m2⟩|⟨l0,bl,cl,arrl,l1,l2,l3,l4,l5,l6,l7,l8⟩
    .exact .inl ⟨⟨Ne.symm hlo,m1⟩,m2⟩
    have hbl:=(hR.ok.rb _ _ _ l1).1
    have hb2:=ext.heap bl hbl
    exact .inr ⟨λh=>l0 h.2,bl,cl,arrl,kb.r _ _ (Ne.symm hlo) l1,hb2.trans l2,l3,l4,l5,l6,cf (kb.heap _) (kb.H _) hb2 _ _ l7,hFb bl hbl l8⟩
   rcases hR.obs l _ k1 with⟨m1,m2⟩|⟨l0,bl,cl,l1,l2,l3⟩
   .exact .inl ⟨⟨Ne.symm hlo,m1⟩,m2⟩
   have hbl:=(hR.ok.rb _ _ _ l1).1
   have hb2:=ext.heap bl hbl
   exact .inr ⟨λh=>l0 h.2,bl,cl,kb.r _ _ (Ne.symm hlo) l1,y'.st _ _ _ _ _ _ l2 (λk hk=>(kb.T _ k hk).1) hb2 (λk hk=>(kb.T _ k hk).2),hFb bl hbl l3⟩
  rw[gu (by rw[hR.size];exact hd)]
  by_cases hdk:d=k
  .subst hdk;rw[cW,if_pos rfl];exact⟨bn,cap,by grind,by simp_all⟩
  rw[cy _ _ hdk,if_neg hdk]
  rcases uY hk k with h|⟨h,h'⟩
  .rw[h];trivial
  rw[h];exact E8 kb h' (hR.sl k)
 rcases h3 with⟨hE',_⟩|⟨_,b',c',arr,hr',hh,ha,hlc,hmx,hes,hrd,hF⟩
 .simp_all
 rw[hr] at hr';cases hr'
 exact z7 hR hrv hd hr hu hh ha hlc hmx hes hrd hF hy hs hk hkb hn hsz hb h63
variable{α:Type}{enc:α->List D}
theorem GU{by_ o:Nat}{ys zs:List α}{gg:Bool}{c:C}[dB P t e sz by_](H:cN by_ (ys++zs).length=ζ)(hne:zs≠[])(hzd:zs.map enc=zd)(henc:∀a,(enc a).length=sz)(hn:ys.length=n)(hs:Src ob c zd gy)(hd:nlt d N=ζ)(hx:opT sl x= .v (.c (.wn o n)))(hy:opT sl y= .v (.c c))(ho:go ob o=ς (.rown e sz (ys.map enc) g))(hk:mf o sl=ς sl')(hkb:kt o ob=ς ob')(hg:(g&&gy)=gg)(hrv:rsp o=η)(hnv:rsv nx=η)(hol:nlt o nx=ζ):
 AWO P N ⟨ς d,.call ⟨.builtin .append,#[x,y],#[t,t]⟩,ty,ps,af,gd⟩ ⟨sl,ob,nx⟩ ⟨(d,.v (.c (.w o (ys++zs).length)))::sl',(o,.row e sz ((ys++zs).map enc) gg ζ)::ob',nx⟩:=by
 subst hzd;subst hg
 simp only[cN,decide_eq_true_eq,YB] at H
 have:=H5 (st:=⟨sl,ob,nx⟩) (P:=P) (N:=N) (d:=d) (ty:=ty) (ps:=ps) (af:=af) (gd:=gd) (t:=t) (e:=e) (sz:=sz) (by_:=by_) hrv hnv (cO hd) hx hy ho hs hk hkb (by simp_all) (by simp_all) (cO hol) (B3 henc zs) (by simp_all) (by simp_all)
 simp_all
end
def Au(p q:Nat):C->Option C
 | .w l n=>match f4 l p,f4 l q with
  |true,_=>ς .any
  |false,ζ=>ς (.w p n)
  |false,η=>ς (.w l n)
 | .wn l n=>match f4 l p,f4 l q with
  |true,_=>ς .any
  |false,ζ=>ς (.wn p n)
  |false,η=>ς (.wn l n)
 | .s l a b c=>match f4 l p,f4 l q with
  |true,_=>ς .any
  |false,ζ=>ς (.s p a b c)
  |false,η=>ς (.s l a b c)
 | .p l k=>match f4 l p,f4 l q with
  |true,_=>ς .any
  |false,ζ=>ς (.p p k)
  |false,η=>ς (.p l k)
 | .e l a b c=>match f4 l p,f4 l q with
  |true,_=>ς .any
  |false,ζ=>ς (.e p a b c)
  |false,η=>ς (.e l a b c)
 |c=>ς c
def zQ(p q:Nat):Laa->Option Laa
 |[]=>ς []
 |(k,.var t cs)::r=>match f4 k p,f4 k q,oB (Au p q) cs,zQ p q r with
  |true,_,_,ς r'=>ς r'
  |false,ζ,ς cs',ς r'=>ς ((p,.var t cs')::r')
  |false,η,ς cs',ς r'=>ς ((k,.var t cs')::r')
  |_,_,_,_=>ξ
 |(k,.row t sz els g m)::r=>match f4 k p,f4 k q,zQ p q r with
  |true,_,ς r'=>ς r'
  |false,ζ,ς r'=>ς ((p,.row t sz els g m)::r')
  |false,η,ς r'=>ς ((k,.row t sz els g m)::r')
  |_,_,_=>ξ
 |(k,.rown t sz els g)::r=>match f4 k p,f4 k q,zQ p q r with
  |true,_,ς r'=>ς r'
  |false,ζ,ς r'=>ς ((p,.rown t sz els g)::r')
  |false,η,ς r'=>ς ((k,.rown t sz els g)::r')
  |_,_,_=>ξ
 |(k,.abs j y)::r=>match f4 k p,f4 k q,zQ p q r with
  |true,_,ς r'=>ς r'
  |false,ζ,ς r'=>ς ((p,.abs j y)::r')
  |false,η,ς r'=>ς ((k,.abs j y)::r')
  |_,_,_=>ξ
def Env.ren(E:Env)(p q:Nat):Env:={E with r:=λl=>if l=p then E.r q else if l=q then ξ else E.r l,n:=λl=>if l=p then E.n q else E.n l}
def Ii(p q l:Nat):Nat:=if l=q then p else l
def zV(p q:Nat):Ob->Ob->Prop
 | .var t cs,y=>∃cs',oB (Au p q) cs=ς cs'/\y= .var t cs'
 |x,y=>y=x
theorem F5{p q:Nat}(hpq:p≠q){l:Nat}{y:Ob}:∀{ob ob':Laa},zQ p q ob=ς ob'->go ob' l=ς y->∃l0 x,l0≠p/\l=Ii p q l0/\go ob l0=ς x/\zV p q x y
 |[],ob',h,hy=>by simp[zQ] at h;subst h;cases hy
 |(k,x)::r,ob',h,hy=>by
  have key:∀(x':Ob) (r':Laa),zV p q x x'->zQ p q r=ς r'->(f4 k p=ζ/\ob'=r')\/(f4 k p=η/\f4 k q=ζ/\ob'=(p,x')::r')\/(f4 k p=η/\f4 k q=η/\ob'=(k,x')::r')->
   ∃l0 x0,l0≠p/\l=Ii p q l0/\go ((k,x)::r) l0=ς x0/\zV p q x0 y:=by
   intro x' r' hx hr hc
   have hrec:go r' l=ς y->∃l0 x0,l0≠p/\l=Ii p q l0/\go r l0=ς x0/\zV p q x0 y:=λh=>F5 hpq hr h
   rcases hc with⟨h1,rfl⟩|⟨h1,h2,rfl⟩|⟨h1,h2,rfl⟩
   .obtain⟨l0,x0,a1,a2,a3,a4⟩:=hrec hy
    have:=Yf h1
    subst this
    exact⟨l0,x0,a1,a2,by rw[bG _ _ (Ne.symm a1)];exact a3,a4⟩
   .have:=Yf h2
    subst this
    by_cases e:p=l
    .subst e
     rw[b9] at hy;cases hy
     exact⟨k,x,iN h1,by simp[Ii],b9 _ _ _,hx⟩
    rw[bG _ _ e] at hy
    obtain⟨l0,x0,a1,a2,a3,a4⟩:=hrec hy
    have hl0:k≠l0:=λe'=>e (by rw[a2,<-e'];simp[Ii])
    exact⟨l0,x0,a1,a2,by rw[bG _ _ hl0];exact a3,a4⟩
   have hkp:=iN h1
   have hkq:=iN h2
   by_cases e:k=l
   .subst e
    rw[b9] at hy;cases hy
    exact⟨k,x,hkp,by simp[Ii,hkq],b9 _ _ _,hx⟩
   rw[bG _ _ e] at hy
   obtain⟨l0,x0,a1,a2,a3,a4⟩:=hrec hy
   have hl0:k≠l0:=λe'=>e (by rw[a2,<-e'];simp[Ii,hkq])
   exact⟨l0,x0,a1,a2,by rw[bG _ _ hl0];exact a3,a4⟩
  cases x with
  |var t cs=>
   simp only[zQ] at h
   split at h
   .rename_i h1 h2
    cases h
    cases hm:oB (Au p q) cs with
    |some cs'=>exact key (.var t cs') _ ⟨cs',hm,rfl⟩ h2 (.inl ⟨h1,rfl⟩)
    |none=>
     obtain⟨l0,x0,a1,a2,a3,a4⟩:=F5 hpq h2 hy
     have:=Yf h1
     subst this
     exact⟨l0,x0,a1,a2,by rw[bG _ _ (Ne.symm a1)];exact a3,a4⟩
   .rename_i h1 h2 h3 h4;cases h;exact key _ _ ⟨_,h3,rfl⟩ h4 (.inr (.inl ⟨h1,h2,rfl⟩))
   .rename_i h1 h2 h3 h4;cases h;exact key _ _ ⟨_,h3,rfl⟩ h4 (.inr (.inr ⟨h1,h2,rfl⟩))
   cases h
  |row t sz els g m=>
   simp only[zQ] at h
   split at h
   .rename_i h1 h2;cases h;exact key _ _ (show zV p q (.row t sz els g m) (.row t sz els g m) from rfl) h2 (.inl ⟨h1,rfl⟩)
   .rename_i h1 h2 h3;cases h;exact key _ _ (show zV p q (.row t sz els g m) (.row t sz els g m) from rfl) h3 (.inr (.inl ⟨h1,h2,rfl⟩))
   .rename_i h1 h2 h3;cases h;exact key _ _ (show zV p q (.row t sz els g m) (.row t sz els g m) from rfl) h3 (.inr (.inr ⟨h1,h2,rfl⟩))
   cases h
  |rown t sz els g=>
   simp only[zQ] at h
   split at h
   .rename_i h1 h2;cases h;exact key _ _ (show zV p q (.rown t sz els g) (.rown t sz els g) from rfl) h2 (.inl ⟨h1,rfl⟩)
   .rename_i h1 h2 h3;cases h;exact key _ _ (show zV p q (.rown t sz els g) (.rown t sz els g) from rfl) h3 (.inr (.inl ⟨h1,h2,rfl⟩))
   .rename_i h1 h2 h3;cases h;exact key _ _ (show zV p q (.rown t sz els g) (.rown t sz els g) from rfl) h3 (.inr (.inr ⟨h1,h2,rfl⟩))
   cases h
  |abs j z=>
   simp only[zQ] at h
   split at h
   .rename_i h1 h2;cases h;exact key _ _ (show zV p q (.abs j z) (.abs j z) from rfl) h2 (.inl ⟨h1,rfl⟩)
   .rename_i h1 h2 h3;cases h;exact key _ _ (show zV p q (.abs j z) (.abs j z) from rfl) h3 (.inr (.inl ⟨h1,h2,rfl⟩))
   .rename_i h1 h2 h3;cases h;exact key _ _ (show zV p q (.abs j z) (.abs j z) from rfl) h3 (.inr (.inr ⟨h1,h2,rfl⟩))
   cases h
theorem I5{ob:Laa}(p q:Nat)(hp:rsp p=false:=by exact rfl)(hq:rsv q=false:=by exact rfl)(hpq:f4 p q=false:=by exact rfl)(hpn:nlt p nx=true:=by exact rfl)(hs:tH (Au p q) sl=ς sl':=by exact rfl)(hb:zQ p q ob=ς ob':=by exact rfl):cM N ⟨sl,ob,nx⟩ ⟨sl',ob',nx⟩:=by
 have hne:=iN hpq
 intro cx E a w hR
 have hrp:(E.ren p q).r p=E.r q:=by simp[Env.ren]
 have hrl:∀l,l≠p->l≠q->(E.ren p q).r l=E.r l:=λl h1 h2=>by simp[Env.ren,h1,h2]
 have hnp:(E.ren p q).n p=E.n q:=by simp[Env.ren]
 have hnl:∀l,l≠p->(E.ren p q).n l=E.n l:=λl h1=>by simp[Env.ren,h1]
 have hr2:∀l b c,(E.ren p q).r l=ς (b,c)->(l=p/\E.r q=ς (b,c))\/(l≠p/\l≠q/\E.r l=ς (b,c)):=by
  intro l b c h
  simp only[Env.ren] at h
  split at h
  .simp_all
  simp_all
 have hf:∀c c' u,Au p q c=ς c'->cvC E w c u->cvC (E.ren p q) w c' u:=by
  intro c c' u h hc
  cases c with
  |w l n=>
   simp only[Au] at h
   split at h
   .cases h;trivial
   .rename_i h1 h2;cases h;have:=Yf h2;subst this;obtain⟨b,k,h3,h4⟩:=hc;exact⟨b,k,hrp.trans h3,h4⟩
   rename_i h1 h2;cases h;obtain⟨b,k,h3,h4⟩:=hc;exact⟨b,k,(hrl _ (iN h1) (iN h2)).trans h3,h4⟩
  |wn l n=>
   simp only[Au] at h
   split at h
   .cases h;trivial
   .rename_i h1 h2;cases h;have:=Yf h2;subst this
    rcases hc with⟨h3,h4⟩|⟨h3,b,k,h5,h6⟩
    .exact .inl ⟨by simp_all,h4⟩
    exact .inr ⟨by simp_all,b,k,hrp.trans h5,h6⟩
   rename_i h1 h2;cases h
   rcases hc with⟨h3,h4⟩|⟨h3,b,k,h5,h6⟩
   .exact .inl ⟨by rw[hnl _ (iN h1)];exact h3,h4⟩
   exact .inr ⟨by rw[hnl _ (iN h1)];exact h3,b,k,(hrl _ (iN h1) (iN h2)).trans h5,h6⟩
  |s l a1 a2 a3=>
   simp only[Au] at h
   split at h
   .cases h;trivial
   .rename_i h1 h2;cases h;have:=Yf h2;subst this;obtain⟨A,c,b,k,h3,h4⟩:=hc;exact⟨A,c,b,k,hrp.trans h3,h4⟩
   rename_i h1 h2;cases h;obtain⟨A,c,b,k,h3,h4⟩:=hc;exact⟨A,c,b,k,(hrl _ (iN h1) (iN h2)).trans h3,h4⟩
  |p l n=>
   simp only[Au] at h
   split at h
   .cases h;trivial
   .rename_i h1 h2;cases h;have:=Yf h2;subst this;obtain⟨b,k,h3,h4⟩:=hc;exact⟨b,k,hrp.trans h3,h4⟩
   rename_i h1 h2;cases h;obtain⟨b,k,h3,h4⟩:=hc;exact⟨b,k,(hrl _ (iN h1) (iN h2)).trans h3,h4⟩
  |e l a1 a2 a3=>
   simp only[Au] at h
   split at h
   .cases h;trivial
   .rename_i h1 h2;cases h;have:=Yf h2;subst this;obtain⟨b,k,h3,h4⟩:=hc;exact⟨b,k,hrp.trans h3,h4⟩
   rename_i h1 h2;cases h;obtain⟨b,k,h3,h4⟩:=hc;exact⟨b,k,(hrl _ (iN h1) (iN h2)).trans h3,h4⟩
  |_=>simp only[Au] at h;cases h;exact hc
 have ok:=hR.ok
 have hback:∀l b c,(E.ren p q).r l=ς (b,c)->∃l',E.r l'=ς (b,c):=λl b c h=>(hr2 l b c h).elim (λh=>⟨q,h.2⟩) (λh=>⟨l,h.2.2⟩)
 refine⟨E.ren p q,⟨ok.fb,ok.gf,ok.gn,λl b c h=>?_,λl l' b c c' h h'=>?_,ok.os,ok.tape,ok.output,ok.size,ok.block,λl x hv h=>?_,ok.ff,ok.gc,⟨λl b h=>?_,ok.sf.tt,λb h=>?_,ok.sf.zs,ok.sf.ze⟩⟩,λl x h=>?_,λl y hl=>?_,λk=>yx hf hs (hR.sl k),hR.dfr,hR.size,hR.td⟩
 .rcases hr2 l b c h with⟨_,h⟩|⟨_,_,h⟩
  .obtain⟨k1,k2⟩:=ok.rb _ _ _ h
   simp_all
  exact ok.rb l b c h
 .rcases hr2 l b c h with⟨rfl,k3⟩|⟨k1,k2,k3⟩<;>rcases hr2 l' b c' h' with⟨e,m3⟩|⟨m1,m2,m3⟩
  .exact e.symm
  .exact absurd (ok.inj _ _ _ _ _ m3 k3) m2
  .exact absurd (ok.inj _ _ _ _ _ k3 m3) k2
  exact ok.inj _ _ _ _ _ k3 m3
 .obtain⟨b,c⟩:=x
  rcases hr2 l b c h with⟨rfl,_⟩|⟨_,_,h⟩
  .simp_all
  exact ok.pin l _ hv h
 .obtain⟨k1,k2,k3,k4⟩:=ok.sf.tb l b h
  exact⟨k1,k2,λl' c hl=>(hback l' b c hl).elim λl'' h''=>k3 l'' c h'',k4⟩
 .obtain⟨k1,k2,k3,k4⟩:=ok.sf.zc b h
  exact⟨k1,k2,λl' c hl=>(hback l' b c hl).elim λl'' h''=>k3 l'' c h'',k4⟩
 .obtain⟨b,c⟩:=x
  rcases hr2 l b c h with⟨rfl,_⟩|⟨_,_,h⟩
  .exact cO hpn
  exact hR.dom l _ h
 obtain⟨l0,x,a1,a2,a3,a4⟩:=F5 hne hb hl
 have hx:=hR.obs l0 x a3
 have hlab:(E.ren p q).r l=E.r l0/\(E.ren p q).n l=E.n l0:=by
  subst a2
  unfold Ii
  split
  .simp_all
  simp_all
 cases x with
 |var t cs=>
  obtain⟨cs',h1,rfl⟩:=a4
  obtain⟨b,c,arr,k1,k2,k3,k4⟩:=hx
  exact⟨b,c,arr,hlab.1.trans k1,k2,sC hf h1 k3,k4⟩
 |row t sz els g m=>
  have a4:y= .row t sz els g m:=a4
  subst a4
  obtain⟨b,c,arr,k1,k2⟩:=hx
  exact⟨b,c,arr,hlab.1.trans k1,k2⟩
 |rown t sz els g=>
  have a4:y= .rown t sz els g:=a4
  subst a4
  rcases hx with⟨h1,h2⟩|⟨h1,b,c,arr,k1,k2⟩
  .exact .inl ⟨by simp_all,h2⟩
  exact .inr ⟨by simp_all,b,c,arr,hlab.1.trans k1,k2⟩
 |abs j z=>
  have a4:y= .abs j z:=a4
  subst a4
  rcases hx with⟨h1,h2⟩|⟨h1,b,c,k1,k2⟩
  .exact .inl ⟨by simp_all,h2⟩
  exact .inr ⟨by simp_all,b,c,hlab.1.trans k1,k2⟩
structure VIn(E:Env)(w:World):Prop where
 fb:∀b,E.F b->b<w.heap.size
 gf:∀b,E.G b->E.F b
 rb:∀o b c,E.r o=ς (b,c)->b<w.heap.size/\rsv o=ζ/\¬E.F b
 inj:∀o o' b c c',E.r o=ς (b,c)->E.r o'=ς (b,c')->o=o'
 T:∀l b,¬E.T l b
 Z:∀b,¬E.Z b
structure VOut(E:Env)(w:World)(E':Env)(w':World):Prop where
 past:Da w w' (λk=>∃o c,E.r o=ς (k,c))
 fb:∀b,E'.F b->b<w'.heap.size
 f0:∀b,E'.F b->E.F b\/(w.heap.size<=b/\iV w' b)
 F:∀b,E.F b->E'.F b
 G:∀b,E.G b->E'.G b
 gf:∀b,E'.G b->E'.F b
 g0:∀b,E'.G b->w.heap.size<=b\/E.G b
 rb:∀o b c,E'.r o=ς (b,c)->b<w'.heap.size/\(w.heap.size<=b\/((∃o' c',E.r o'=ς (b,c'))/\rsv o=ζ))
 inj:∀o o' b c c',E'.r o=ς (b,c)->E'.r o'=ς (b,c')->o=o'
 pin:∀o x,rsp o=ζ->E'.r o=ς x->E.r o=ς x
structure FnV(P:Program)(f:FuncId)(xs:Laa)(args:List T)(ys:Laa)(out:T)(nw:Laa):Prop where
 enters:∀(vs:Array Value) (w:World),(callFunc f vs).run P w= .ok (.enter f vs) w
 calls:∀(E:Env) (w:World) (vals:Array Value),VIn E w->TabsIn w->(∀k∈pA,∀o c,E.r o≠ς (k,c))->(∀l x,go xs l=ς x->cB E w l x)->TV E w args vals.toList->
  Calls P f vals w λe w'=>∃v E',e= .returned v/\VOut E w E' w'/\cvT E' w' out v/\(∀l y,go ys l=ς y->cB E' w' l y)/\(∀l y,go nw l=ς y->cB E' w' l y)
def JX:List V->T
 |[v]=>.v v
 |vs=>.tup vs
def LoA(ob:Laa):Laa->Prop
 |[]=>True
 |(l,x)::r=>go ob l=ς x/\LoA ob r
theorem EN{ob:Laa}:∀{l:Laa} {k:Nat} {x:Ob},LoA ob l->go l k=ς x->go ob k=ς x
 |(j,y)::r,k,x,h,hg=>by
  by_cases e:j=k
  .subst e;rw[b9] at hg;cases hg;exact h.1
  rw[bG _ _ e] at hg;exact EN h.2 hg
def md(N:Nat)(P:Program)(rs:List ResultVar)(ys:Laa)(out:T)(nw:Laa):Exit->St->Prop
 | .ret,s| .normal,s=>∃s' vs,cM N s s'/\ki P s' rs vs/\JX vs=out/\LoA s'.ob ys/\LoA s'.ob nw
 |_,_=>False
instance {N:Nat} {P:Program} {rs:List ResultVar} {ys:Laa} {out:T} {nw:Laa}:Clo N (md N P rs ys out nw):=⟨λe s m hw h=>by
 cases e<;>simp only[md] at h ⊢<;>first|exact h|(obtain⟨s',vs,h1,h2⟩:=h;exact⟨s',vs,aJ hw h1,h2⟩)⟩
theorem Bv{e:Exit}{m:St}(hw:cM N s m)(h:th N P rs res e m):th N P rs res e s:=Clo.h (N:=N) _ _ _ hw h
theorem tv{e:Exit}{m:St}(hw:cM N s m)(h:pL N P rs res y e m):pL N P rs res y e s:=Clo.h (N:=N) _ _ _ hw h
theorem cg{ys:Laa}{e:Exit}{m:St}(hw:cM N s m)(h:md N P rs ys out nw e m):md N P rs ys out nw e s:=Clo.h (N:=N) _ _ _ hw h
theorem dv{ys:Laa}{vs:List V}(h:ki P s rs vs:=by repeat' (first|exact .nil|apply ki.cons|exact .tmp rfl|exact .cell rfl rfl rfl|exact .cell1 rfl rfl))(ho:JX vs=out':=by exact rfl)(e:out'=out:=by first|rfl|simp)(hy:LoA s.ob ys:=by repeat (first|exact θ|refine⟨rfl,?_⟩))(hn:LoA s.ob nw:=by repeat (first|exact θ|refine⟨rfl,?_⟩)):md N P rs ys out nw .ret s:=by
 subst e;exact⟨s,vs,kU s,h,ho,hy,hn⟩
theorem BL{ys:Laa}{vs:List V}(h:ki P s rs vs:=by repeat' (first|exact .nil|apply ki.cons|exact .tmp rfl|exact .cell rfl rfl rfl|exact .cell1 rfl rfl))(ho:JX vs=out':=by exact rfl)(e:out'=out:=by first|rfl|simp)(hy:LoA s.ob ys:=by repeat (first|exact θ|refine⟨rfl,?_⟩))(hn:LoA s.ob nw:=by repeat (first|exact θ|refine⟨rfl,?_⟩)):md N P rs ys out nw .normal s:=by
 subst e;exact⟨s,vs,kU s,h,ho,hy,hn⟩
theorem W8{o:Nat}(h:rsv o=ζ):o<210:=by
 simp only[rsv,nlt,hV,Nat.ble_eq] at h;omega
theorem Fl{fn:Func}{c:Code}{xs ys:Laa}{args:List T}{sl0:Lab}(hf:P.funcs[f]?=ς fn)(hb:fn.body=ς c:=by exact rfl)(hnm:(fn.name== "runtime.NumGoroutine")=false:=by kernel_rfl)(hN:fn.ntmps=N)(hrs:fn.results.toList=rs:=by exact rfl)(ha:Yk args.length N=true:=by exact rfl)(hs:tk 0 args=sl0:=by exact rfl)(h:AWC P N c ⟨sl0,xs,210⟩ (md N P rs ys out nw)):FnV P f xs args ys out nw:=by
 subst hs
 refine⟨λvs w=>by simp[callFunc,hf,hb];simp_all,λE w vals hI hT hTb hx hA=>?_⟩
 subst hrs
 refine calls_of_wp hf hb ?_
 obtain⟨h1,h2⟩:=Az 0 hA
 have hle:args.length<=N:=YJ ha
 have hsz:vals.size=args.length:=by simpa using h1
 have hR:Rel N ⟨w,λk=>∃o c,E.r o=ς (k,c),E.r,E.F,λ_=>False,⟨hT,λk hk ⟨o,c,h⟩=>hTb k hk o c h⟩,E.G⟩ E ⟨tk 0 args,xs,210⟩ {tmps:=vals++Ym (fn.ntmps-vals.size) undef,defers:=[]} w:=by
  refine⟨⟨hI.fb,hI.gf,λ_ h=>.inr h,λo k k' h=>?_,hI.inj,rfl,rfl,rfl,Yj _,λ_ _ _=>rfl,λ_ _ _ h=>h,λ_ h=>.inl h,λb h h'=>absurd (hI.fb b h) (by simp_all),⟨λl b h=>absurd h (hI.T l b),λl _ b h=>absurd h (hI.T l b),λ_ h=>h.elim,λ_ h=>h.elim,λb h=>absurd h (hI.Z b)⟩⟩,λo p h=>?_,λo ob h=>hx o ob h,λk=>?_,rfl,by simp;omega,λl b h=>absurd h (hI.T l b)⟩
  .obtain⟨k1,k2,_⟩:=hI.rb o k k' h;grind
  .exact W8 (hI.rb o p.1 p.2 h).2.1
  by_cases hk:k<args.length
  .obtain⟨u,h3,h4⟩:=(h2 k).1 ⟨Yu _,by omega⟩
   have:(vals++Ym (fn.ntmps-vals.size) undef).getD k undef=u:=by
    have h5:vals[k]?=ς u:=by simpa using h3
    have h6:(vals++Ym (fn.ntmps-vals.size) undef)[k]?=ς u:=by rw[Zf oaa];exact h5
    simp[h6]
   simp_all
  have:=(h2 k).2 oaa
  show cvT _ w (gt (tk 0 args) k) _
  rw[this];trivial
 refine wp_mono (h _ _ _ w hR) ?_
 rintro e a' w' ⟨E',s',hR',hq⟩
 have fin:(∃s'' vs,cM N s' s''/\ki P s'' fn.results.toList vs/\JX vs=out/\LoA s''.ob ys/\LoA s''.ob nw)->
  a'.defers=[]/\∃v,(results fn a'.tmps).run P w'= .ok v w'/\∃v' E',Ending.returned v= .returned v'/\VOut E w E' w'/\cvT E' w' out v'/\(∀l y,go ys l=ς y->cB E' w' l y)/\(∀l y,go nw l=ς y->cB E' w' l y):=by
  rintro⟨s'',vs,hw,hres,ho,hys,hnw⟩
  obtain⟨E'',hR''⟩:=hw _ _ _ _ hR'
  have ok:=hR''.ok
  obtain⟨us,k1,k2⟩:=uI hR'' hres
  have hm:(fn.results.mapM (lR a'.tmps)).run P w'= .ok us.toArray w':=by
   rw[<-YQ (xs:=fn.results),Zn]
   simp only[Sem.run_map,k1]
   rfl
  have hrr:results fn a'.tmps=(fn.results.mapM (lR a'.tmps))>>= λvs=>pure (if h:vs.size=1 then vs[0] else .tuple vs):=rfl
  have hv:∃v,(results fn a'.tmps).run P w'= .ok v w'/\cvT E'' w' out v:=by
   subst ho
   match vs,us,k2 with
   |[],[],_=>exact⟨.tuple #[],by simp_all,#[],rfl,θ⟩
   |[v],[u],k2=>exact⟨u,by simp_all,k2.1⟩
   |v1::v2::vs,u1::u2::us,k2=>exact⟨.tuple (u1::u2::us).toArray,by simp_all,_,rfl,k2⟩
  obtain⟨v,q1,q2⟩:=hv
  have hk:jV E'' w' {E'' with F:=λb=>E''.F b\/E.F b,G:=λb=>E''.G b\/E.G b} w':=⟨λ_ _ h=>h,λg b h=>by cases g<;>exact .inl h,λ_ _ _=>rfl,λ_ _ h=>⟨h,rfl⟩,λ_ h=>⟨h,.refl _ _⟩,rfl⟩
  have hob:∀l y,go s''.ob l=ς y->cB {E'' with F:=λb=>E''.F b\/E.F b,G:=λb=>E''.G b\/E.G b} w' l y:=λl y h=>
   f8 hk (λ_ _ _=>rfl) (λb c hr hn hF=>hF.elim hn (λhF=>by
    rcases(ok.rb l b c hr).2 with k|⟨⟨o,c',k⟩,_⟩
    .have:=hI.fb b hF;grind
    exact(hI.rb o b c' k).2.2 hF)) (hR''.obs l y h)
  refine⟨hR''.dfr,v,q1,v,{E'' with F:=λb=>E''.F b\/E.F b,G:=λb=>E''.G b\/E.G b},rfl,⟨⟨ok.os,ok.tape,ok.output,ok.size,ok.block⟩,λb h=>h.elim (ok.fb b) (λh=>by have:=hI.fb b h;have:=ok.size;grind),λb h=>h.elim (λh=>(ok.ff b h).elim .inl (λk=>.inr ⟨k,ok.gc b h k⟩)) .inl,λb h=>.inr h,λb h=>.inr h,λb h=>h.imp (ok.gf b) (hI.gf b),λb h=>h.elim (ok.gn b) .inr,λo b c h=>?_,ok.inj,λo x hv h=>?_⟩,?_,?_,?_⟩
  .obtain⟨m1,m2⟩:=ok.rb o b c h
   simp_all
  .exact ok.pin o x hv h
  .exact jM hk q2
  .exact λl y h=>hob l y (EN hys h)
  exact λl y h=>hob l y (EN hnw h)
 cases e with
 |normal=>exact fin hq
 |ret=>exact fin hq
 |_=>exact hq.elim
def dJ:Lac->Nat->Option Nat
 |[],_=>ξ
 |(a,b)::r,n=>match f4 a n with
  |true=>ς b
  |false=>dJ r n
def inv:Lac->Lac
 |[]=>[]
 |(a,b)::r=>(b,a)::inv r
theorem d8{a b:Nat}:∀{m:Lac},dJ m a=ς b->(a,b)∈m
 |(x,y)::r,h=>by
  simp only[dJ] at h
  split at h
  .simp_all
  exact .tail _ (d8 h)
theorem i7{a b:Nat}:∀{m:Lac},(m.map (·.1)).Nodup->(a,b)∈m->dJ m a=ς b
 |(x,y)::r,hn,h=>by
  simp only[dJ]
  simp only[Yq,YT] at hn
  rcases Yh.1 h with e|h
  .cases e;simp
  have hne:x≠a:=λe=>hn.1 (by simp_all)
  rw[jo hne];exact i7 hn.2 h
theorem ph{a b:Nat}:∀{m:Lac},(b,a)∈inv m↔(a,b)∈m
 |[]=>by simp[inv]
 |(x,y)::r=>by
  simp only[inv,Yh,Prod.mk.injEq,ph (m:=r)]
  grind
theorem uX:∀(m:Lac),(inv m).map (·.1)=m.map (·.2)
 |[]=>rfl
 |(x,y)::r=>by simp[inv,uX r]
def rlC(m:Lac):C->Option C
 | .d g x=>ς (.d g x)
 | .nil=>ς .nil
 | .any=>ς .any
 | .fn f=>ς (.fn f)
 | .w l n=>match dJ m l with
  |some k=>ς (.w k n)
  |none=>ξ
 | .wn l n=>match dJ m l with
  |some k=>ς (.wn k n)
  |none=>ξ
 | .p l j=>match dJ m l with
  |some k=>ς (.p k j)
  |none=>ξ
 | .s l x y z=>match dJ m l with
  |some k=>ς (.s k x y z)
  |none=>ξ
 |_=>ξ
def rlB(ob:Laa)(m:Lac):C->Option C
 | .d g x=>ς (.d g x)
 | .nil=>ς .nil
 | .any=>ς .any
 | .fn f=>ς (.fn f)
 | .w l n=>match dJ m l,go ob l with
  |some k,ς (.row ..)=>ς (.w k n)
  |_,_=>ξ
 | .wn l n=>match dJ m l,go ob l with
  |some k,ς (.rown ..)=>ς (.wn k n)
  |_,_=>ξ
 | .p l j=>match dJ m l,go ob l with
  |some k,ς (.var ..)=>ς (.p k j)
  |_,_=>ξ
 |_=>ξ
def agC(up:Bool)(ob:Laa)(m:Lac):C->Option C
 | .d g x=>ς (.d (up&&g) x)
 | .nil=>ς (.d up (.l []))
 |c=>rlB ob m c
def p6(f:C->Option C):List T->Option (List T)
 |[]=>ς []
 |c::cs=>match wV f c,p6 f cs with
  |some x,ς xs=>ς (x::xs)
  |_,_=>ξ
def Dp(f:C->Option C):Ob->Option Ob
 | .var t cs=>match oB f cs with
  |some cs'=>ς (.var t cs')
  |none=>ξ
 | .row t sz els g ζ=>ς (.row t sz els g ζ)
 | .row _ _ _ _ η=>ξ
 | .rown t sz els g=>ς (.rown t sz els g)
 | .abs _ _=>ξ
def xg(mi:Lac)(ob:Laa):Lac->Option Laa
 |[]=>ς []
 |(k,o)::r=>match go ob o with
  |some x=>match Dp (rlB ob mi) x,xg mi ob r with
   |some y,ς ys=>ς ((k,y)::ys)
   |_,_=>ξ
  |none=>ξ
def qg(m:Lac):Laa->Option Laa
 |[]=>ς []
 |(k,x)::r=>match dJ m k,Dp (rlC m) x,qg m r with
  |some o,ς y,ς ys=>ς ((o,y)::ys)
  |_,_,_=>ξ
def kvC(mi:Lac):C->Option C
 | .w l n=>match dJ mi l with
  |some _=>ς .any
  |none=>ς (.w l n)
 | .wn l n=>match dJ mi l with
  |some _=>ς .any
  |none=>ς (.wn l n)
 | .s l a b c=>match dJ mi l with
  |some _=>ς .any
  |none=>ς (.s l a b c)
 | .e l a b c=>match dJ mi l with
  |some _=>ς .any
  |none=>ς (.e l a b c)
 | .p l j=>match dJ mi l with
  |some k=>match rsp k with
   |true=>ς (.p l j)
   |false=>ς .any
  |none=>ς (.p l j)
 |c=>ς c
def Qg(ys:Laa)(k:Nat):Bool:=match go ys k with
 |some (.var ..)=>ζ
 |_=>η
def KX(nx:Nat):Lac->Nat->Bool
 |[],n=>f4 n nx
 |(k,o)::r,n=>((f4 o nx&&!rsv nx)&&!rsv k)&&KX (nx+1) r n
def mOK(m nl:Lac)(nx n:Nat)(ys:Laa):Bool:=
 ((lM ((m++nl).map (·.1))&&lM ((m++nl).map (·.2)))&&(m.all (λp=>rsv p.1&&nlt p.2 nx)&&KX nx nl n))&&
  ((m.all (λp=>rsp p.1||rsv p.2)||m.all (λp=>rsp p.1||!rsv p.2))&&m.all (λp=>(!rsp p.2||rsp p.1)&&((!rsp p.1||Qg ys p.1)&&(go ys p.1).isSome)))
theorem G4:∀{nl:Lac} {nx n:Nat},KX nx nl n=ζ->nx<=n/\∀k o,(k,o)∈nl->nx<=o/\o<n/\rsv o=η/\rsv k=η
 |[],nx,n,h=>by have:=Yf h;simp_all
 |(k,o)::r,nx,n,h=>by
  simp only[KX,hV,Yz] at h
  obtain⟨⟨⟨h1,h2⟩,h3⟩,h4⟩:=h
  have:=Yf h1
  subst this
  obtain⟨k1,k2⟩:=G4 h4
  grind
theorem B6{f:C->Option C}{E E':Env}{w w':World}(hf:∀c c' u,f c=ς c'->cvC E w c u->cvC E' w' c' u){a:Act}:∀{ts ts':List T} {args:List Operand},p6 f ts=ς ts'->ts.length=args.length->(∀x t,(x,t)∈args.zip ts->cvT E w t (a.eval x))->TV E' w' ts' (args.map a.eval)
 |[],ts',args,h,hl,hn=>by
  simp[p6] at h;subst h
  cases args with
  |nil=>trivial
  |cons _ _=>simp at hl
 |t::ts,ts',args,h,hl,hn=>by
  simp only[p6] at h
  split at h
  .rename_i h1 h2
   simp at h;subst h
   cases args with
   |nil=>simp at hl
   |cons y args=>exact⟨yy hf h1 (hn y t (by simp)),B6 hf h2 (by simp_all) (λx t hm=>hn x t (by simp[hm]))⟩
  cases h
theorem H9{mi:Lac}{ob:Laa}:∀{m:Lac} {xs:Laa} {l:Nat} {x:Ob},xg mi ob m=ς xs->go xs l=ς x->∃o x0,dJ m l=ς o/\go ob o=ς x0/\Dp (rlB ob mi) x0=ς x
 |[],xs,l,x,h,hg=>by simp[xg] at h;subst h;cases hg
 |(k,o)::r,xs,l,x,h,hg=>by
  simp only[xg] at h
  split at h
  .rename_i x0 h0
   split at h
   .rename_i y ys h1 h2
    simp at h;subst h
    by_cases e:k=l
    .subst e;rw[b9] at hg;cases hg;exact⟨o,x0,by simp[dJ],h0,h1⟩
    rw[bG _ _ e] at hg
    obtain⟨o',x',a1,a2,a3⟩:=H9 h2 hg
    exact⟨o',x',by simp only[dJ,jo e];exact a1,a2,a3⟩
   cases h
  cases h
theorem D7{mi:Lac}{ob:Laa}:∀{m:Lac} {xs:Laa} {k o:Nat},xg mi ob m=ς xs->(k,o)∈m->∃x0 x,go ob o=ς x0/\Dp (rlB ob mi) x0=ς x
 |(k',o')::r,xs,k,o,h,hm=>by
  simp only[xg] at h
  split at h
  .rename_i x0 h0
   split at h
   .rename_i y ys h1 h2
    rcases Yh.1 hm with e|hm
    .simp_all
    exact D7 h2 hm
   cases h
  cases h
theorem Cj{m:Lac}(hinj:∀a a' b,dJ m a=ς b->dJ m a'=ς b->a=a'):∀{ys ys':Laa} {o:Nat} {y':Ob},qg m ys=ς ys'->go ys' o=ς y'->∃k y,dJ m k=ς o/\go ys k=ς y/\Dp (rlC m) y=ς y'
 |[],ys',o,y',h,hg=>by simp[qg] at h;subst h;cases hg
 |(k,x)::r,ys',o,y',h,hg=>by
  simp only[qg] at h
  split at h
  .rename_i o1 y1 ys1 h1 h2 h3
   simp at h;subst h
   by_cases e:o1=o
   .subst e;rw[b9] at hg;cases hg;exact⟨k,x,h1,b9 _ _ _,h2⟩
   rw[bG _ _ e] at hg
   obtain⟨k',y,a1,a2,a3⟩:=Cj hinj h3 hg
   have hne:k≠k':=λe'=>by simp_all
   exact⟨k',y,a1,by rw[bG _ _ hne];exact a2,a3⟩
  cases h
theorem Qd{a b:Laa}{o:Nat}(h:go (a++b) o=ς x):go a o=ς x\/(go a o=ξ/\go b o=ς x):=by
 induction a with
 |nil=>exact .inr ⟨rfl,h⟩
 |cons p r ih=>
  obtain⟨k,v⟩:=p
  by_cases e:k=o
  .subst e;rw[Yv,b9] at h;rw[b9];exact .inl h
  rw[Yv,bG _ _ e] at h;rw[bG _ _ e];exact ih h
theorem Ck{m:Lac}:∀{ys ys':Laa} {k:Nat} {y:Ob},qg m ys=ς ys'->go ys k=ς y->∃o,dJ m k=ς o/\go ys' o≠ξ
 |(k',x)::r,ys',k,y,h,hg=>by
  simp only[qg] at h
  split at h
  .rename_i o1 y1 ys1 h1 h2 h3
   simp at h;subst h
   by_cases e:k'=k
   .subst e;exact⟨o1,h1,by rw[b9];simp⟩
   rw[bG _ _ e] at hg
   obtain⟨o,a1,a2⟩:=Ck h3 hg
   refine⟨o,a1,?_⟩
   by_cases e2:o1=o
   .subst e2;rw[b9];simp
   rw[bG _ _ e2];exact a2
  cases h
theorem yN{f:C->Option C}{o:Nat}(h:Dp f x=ς y)(hf:∀c c' u,f c=ς c'->cvC E w c u->cvC E' w c' u)(hr:∀b c,¬(E.n l/\∃t sz els g,x= .rown t sz els g)->E.r l=ς (b,c)->E'.r o=ς (b,c))(hn:E'.n o↔E.n l)(hH:∀g b,E.H g b->E'.H g b)(hF:∀b c,¬(E.n l/\∃t sz els g,x= .rown t sz els g)->E.r l=ς (b,c)->¬E.F b->¬E'.F b)(hx:cB E w l x):cB E' w o y:=by
 cases x with
 |var t cs=>
  simp only[Dp] at h
  split at h
  .rename_i h1;cases h
   obtain⟨b,c,arr,k1,k2,k3,k4⟩:=hx
   have hno:¬(E.n l/\∃t' sz els g,Ob.var t cs= .rown t' sz els g):=λ⟨_,_,_,_,_,h⟩=>by cases h
   exact⟨b,c,arr,hr b c hno k1,k2,sC hf h1 k3,hF b c hno k1 k4⟩
  cases h
 |row t sz els g mm=>
  cases mm with
  |false=>cases h
  |true=>
   cases h
   obtain⟨b,c,arr,k1,k2,k3,k4,k5,k6,k7,k8,_⟩:=hx
   have hno:¬(E.n l/\∃t' sz' els' g',Ob.row t sz els g ζ= .rown t' sz' els' g'):=λ⟨_,_,_,_,_,h⟩=>by cases h
   exact⟨b,c,arr,hr b c hno k1,k2,k3,k4,k5,k6,cf (λ_ _=>rfl) (hH g) rfl _ _ k7,λ_=>hF b c hno k1 (k8 rfl),λh=>by cases h⟩
 |rown t sz els g=>
  cases h
  rcases hx with⟨h1,h2⟩|⟨h1,b,c,arr,k1,k2,k3,k4,k5,k6,k7,k8⟩
  .exact .inl ⟨hn.2 h1,h2⟩
  exact .inr ⟨λk=>h1 (hn.1 k),b,c,arr,hr b c (λk=>h1 k.1) k1,k2,k3,k4,k5,k6,cf (λ_ _=>rfl) (hH g) rfl _ _ k7,hF b c (λk=>h1 k.1) k1 k8⟩
 |abs j z=>cases h
def ltF(n:Nat)(f:C->Option C)(c:C):Option C:=bif c.lt n then f c else ς .any
theorem HS{n:Nat}{f:C->Option C}:∀{cs:List C},cs.all (C.lt n)=ζ->oB (ltF n f) cs=oB f cs
 |[],_=>rfl
 |c::cs,h=>by
  simp only[Yy,hV] at h
  simp only[oB,HS h.2,ltF,h.1,cond_true]
theorem LG{f:C->Option C}{v:V}(h:v.lt n=ζ):FA (ltF n f) v=FA f v:=by
 cases v with
 |c c=>have h:c.lt n=true:=h;simp only[FA,ltF,h,cond_true]
 |agg cs=>simp only[FA,HS (n:=n) (cs:=cs) h]
theorem HT{n:Nat}{f:C->Option C}:∀{cs:List V},cs.all (V.lt n)=ζ->Ae (ltF n f) cs=Ae f cs
 |[],_=>rfl
 |c::cs,h=>by
  simp only[Yy,hV] at h
  simp only[Ae,HT h.2,LG h.1]
theorem Um{f:C->Option C}{t:T}(h:t.lt n=ζ):wV (ltF n f) t=wV f t:=by
 cases t with
 |v v=>simp only[wV,LG (n:=n) (v:=v) h]
 |tup vs=>simp only[wV,HT (n:=n) (cs:=vs) h]
 |any=>rfl
theorem LE{n:Nat}{f:C->Option C}:∀{sl:Lab},wY n sl=ζ->tH (ltF n f) sl=tH f sl
 |[],_=>rfl
 |(k,t)::r,h=>by
  simp only[wY,hV] at h
  simp only[tH,Um h.1,LE h.2]
open Classical in
theorem FV{up:Bool}{d:Tmp}{ob:Laa}{xs ys ys' nw':Laa}{m nl:Lac}(hF:FnV P f xs ts' ys out nw)(ht:pj sl args=ς ts)(ha:p6 (agC up ob (inv m)) ts=ς ts')(hx:xg (inv m) ob m=ς xs)(hm:mOK m nl nx n ys=ζ)(hs:tH (kvC (inv m)) sl=ς sl')(hb:sD (kvC (inv m)) (λ_ x=>ς x) ob=ς ob')(hy:qg (m++nl) ys=ς ys')(hw:qg (m++nl) nw=ς nw')(ho:wV (rlC (m++nl)) out=ς out')(hsl:wY nx sl=ζ)(hol:qR nx ob=ζ)(hN:nlt d N=ζ):
 AWO P N ⟨ς d,.call ⟨.value (.func f),args.toArray,tys⟩,ty,ps,af,gd⟩ ⟨sl,ob,nx⟩ ⟨(d,out')::sl',nw'++(ys'++ob'),n⟩:=by
 intro cx E a w hR
 have ok:=hR.ok
 obtain⟨t1,t2⟩:=qS ht
 simp only[mOK,hV,Yi,Yw,Yz] at hm
 obtain⟨⟨⟨hk1,hk2⟩,hm1,hc⟩,hu,hm2⟩:=hm
 have nd1:=jN hk1
 have nd2:=jN hk2
 obtain⟨hnn,hcu⟩:=G4 hc
 have ndm1:(m.map (·.1)).Nodup:=by rw[Y8] at nd1;exact(Zl.1 nd1).1
 have ndm2:(m.map (·.2)).Nodup:=by rw[Y8] at nd2;exact(Zl.1 nd2).1
 have inv_of:∀{k o},dJ m k=ς o->dJ (inv m) o=ς k:=λh=>i7 (by rw[uX];exact ndm2) (ph.2 (d8 h))
 have of_inv:∀{k o},dJ (inv m) o=ς k->dJ m k=ς o:=λh=>i7 ndm1 (ph.1 (d8 h))
 have inv_of':∀{k o},dJ (m++nl) k=ς o->dJ (inv (m++nl)) o=ς k:=λh=>i7 (by rw[uX];exact nd2) (ph.2 (d8 h))
 have of_inv':∀{k o},dJ (inv (m++nl)) o=ς k->dJ (m++nl) k=ς o:=λh=>i7 nd1 (ph.1 (d8 h))
 have look_m:∀{k o},dJ m k=ς o->dJ (m++nl) k=ς o:=λh=>i7 nd1 (Ye.2 (.inl (d8 h)))
 have split:∀{k o},dJ (m++nl) k=ς o->dJ m k=ς o\/(k,o)∈nl:=λh=>(Ye.1 (d8 h)).imp (i7 ndm1) id
 have linj:∀a a' b,dJ m a=ς b->dJ m a'=ς b->a=a':=λa a' b h h'=>by grind
 have linj':∀a a' b,dJ (m++nl) a=ς b->dJ (m++nl) a'=ς b->a=a':=λa a' b h h'=>by grind
 have mrs:∀{k o},dJ m k=ς o->rsv k=ζ/\o<nx:=λh=>⟨(hm1 _ (d8 h)).1,cO (hm1 _ (d8 h)).2⟩
 have pick:∀{k o},dJ m k=ς o->∃x0 x,go ob o=ς x0/\Dp (rlB ob (inv m)) x0=ς x:=λh=>D7 hx (d8 h)
 let nilL:Nat->Prop:=λo=>E.n o/\∃t sz els g,go ob o=ς (.rown t sz els g)
 let Ec:Env:={r:=λl=>match dJ m l with|some o=>if nilL o then ξ else E.r o|none=>ξ,F:=E.F,G:=E.G,n:=λl=>∃o,dJ m l=ς o/\E.n o}
 have hEc:∀l p,Ec.r l=ς p->∃o,dJ m l=ς o/\¬nilL o/\E.r o=ς p:=by
  intro l p h
  have h:(match dJ m l with|some o=>if nilL o then ξ else E.r o|none=>ξ)=ς p:=h
  split at h
  .rename_i o h1
   split at h
   .cases h
   grind
  cases h
 have hEc2:∀{l o p},dJ m l=ς o->¬nilL o->E.r o=ς p->Ec.r l=ς p:=by
  intro l o p h1 h2 h3
  show(match dJ m l with|some o=>if nilL o then ξ else E.r o|none=>ξ)=ς p
  rw[h1];simp only[h2,if_false];exact h3
 have hEn:∀{l o},dJ m l=ς o->(Ec.n l↔E.n o):=λh=>⟨λ⟨o',h1,h2⟩=>by grind,λh2=>⟨_,h,h2⟩⟩
 have nF:∀{l o b c},dJ m l=ς o->¬nilL o->E.r o=ς (b,c)->¬E.F b:=by
  intro l o b c h1 h2 h3
  obtain⟨x0,x,a1,a2⟩:=pick h1
  have hx0:=hR.obs o x0 a1
  cases x0 with
  |var t cs=>obtain⟨b',c',arr,k1,k2,k3,k4⟩:=hx0;grind
  |row t sz els g mm=>
   cases mm with
   |false=>cases a2
   |true=>obtain⟨b',c',arr,k1,k2,k3,k4,k5,k6,k7,k8,_⟩:=hx0;grind
  |rown t sz els g=>
   rcases hx0 with⟨k0,_⟩|⟨_,b',c',arr,k1,k2,k3,k4,k5,k6,k7,k8⟩
   .grind
   grind
  |abs j z=>cases a2
 have hVI:VIn Ec w:=⟨ok.fb,ok.gf,λl b c h=>by
  obtain⟨o,h1,h2,h3⟩:=hEc l _ h
  exact⟨(ok.rb o b c h3).1,(mrs h1).1,nF h1 h2 h3⟩,λl l' b c c' h h'=>by
  obtain⟨o,h1,h2,h3⟩:=hEc l _ h
  obtain⟨o',h1',h2',h3'⟩:=hEc l' _ h'
  have:=ok.inj _ _ _ _ _ h3 h3'
  grind,λ_ _ h=>h,λ_ h=>h⟩
 have hcB:∀c c' u,rlB ob (inv m) c=ς c'->cvC E w c u->cvC Ec w c' u:=by
  intro c c' u h hc
  cases c with
  |w l n=>
   simp only[rlB] at h
   split at h
   .rename_i k _ _ _ _ _ h1 h2;cases h
    obtain⟨b,c,h3,h4⟩:=hc
    exact⟨b,c,hEc2 (of_inv h1) (λ⟨_,_,_,_,_,h⟩=>by grind) h3,h4⟩
   cases h
  |wn l n=>
   simp only[rlB] at h
   split at h
   .rename_i k _ _ _ _ h1 h2;cases h
    rcases hc with⟨h3,h4⟩|⟨h3,b,c,h4,h5⟩
    .exact .inl ⟨(hEn (of_inv h1)).2 h3,h4⟩
    exact .inr ⟨λh=>h3 ((hEn (of_inv h1)).1 h),b,c,hEc2 (of_inv h1) (λh=>h3 h.1) h4,h5⟩
   cases h
  |p l n=>
   simp only[rlB] at h
   split at h
   .rename_i k _ _ h1 h2;cases h
    obtain⟨b,c,h3,h4⟩:=hc
    exact⟨b,c,hEc2 (of_inv h1) (λ⟨_,_,_,_,_,h⟩=>by grind) h3,h4⟩
   cases h
  |d g x=>simp only[rlB] at h;cases h;cases g<;>exact hc
  |nil=>simp only[rlB] at h;cases h;exact hc
  |any=>simp only[rlB] at h;cases h;trivial
  |fn f=>simp only[rlB] at h;cases h;exact hc
  |_=>simp only[rlB] at h;cases h
 have hcA:∀c c' u,agC up ob (inv m) c=ς c'->cvC E w c u->cvC Ec w c' u:=by
  intro c c' u h hc
  cases c with
  |d g x=>simp only[agC] at h;cases h;exact cm (λ_ _=>rfl) (λb hb=>by cases g<;>cases up<;>first|exact hb|exact ok.gf b hb) x u hc
  |nil=>simp only[agC] at h;cases h;exact⟨ξ,0,hc,Yj _,.inl rfl⟩
  |_=>simp only[agC] at h;grind
 have hX:∀l x,go xs l=ς x->cB Ec w l x:=by
  intro l x h
  obtain⟨o,x0,a1,a2,a3⟩:=H9 hx h
  exact yN a3 hcB (λb c h1 h2=>hEc2 a1 (λ⟨k1,t,sz,els,g,k2⟩=>h1 ⟨k1,t,sz,els,g,by grind⟩) h2) (hEn a1) (λg b h=>by cases g<;>exact h) (λb c h1 h2 h3=>h3) (hR.obs o x0 a2)
 have hA:=B6 (a:=a) hcA ha t1 (λx t hm=>by have:=hR.op x;rwa [Lk.mem t2 x t hm] at this)
 have hc:=hF.calls Ec w (args.map a.eval).toArray hVI ok.tabs (λk hk l c h=>by
  obtain⟨o,_,_,h3⟩:=hEc l _ h;exact ok.ntab h3 k hk rfl) hX oaa
 have hent:=hF.enters (args.map a.eval).toArray w
 unfold Oper.wp
 have hrun:(execOp a.eval ⟨ς d,.call ⟨.value (.func f),args.toArray,tys⟩,ty,ps,af,gd⟩).run P w= .ok (.enter f (args.map a.eval).toArray) w:=by
  simp only[execOp,resolve,Act.eval,Deferred.ofValue,Sem.run_bind,Sem.run_pure,Result.andThen_ok,invoke]
  simpa using hent
 rw[hrun,Oper.upon_enter]
 refine hc.mono ?_
 rintro e w' ⟨v,E',rfl,vo,hv,hY,hNW⟩
 have hsz:=vo.past.size
 let E2:Env:={r:=λl=>match dJ (inv (m++nl)) l with|some k=>E'.r k|none=>E.r l,F:=E'.F,G:=E'.G,T:=E.T,Z:=E.Z,n:=λl=>match dJ (inv (m++nl)) l with|some k=>E'.n k|none=>E.n l}
 have e2r:∀{k o},dJ (m++nl) k=ς o->E2.r o=E'.r k:=λh=>by grind
 have e2n:∀{k o},dJ (m++nl) k=ς o->(E2.n o↔E'.n k):=λh=>by grind
 have e2r0:∀{o},dJ (inv (m++nl)) o=ξ->E2.r o=E.r o:=λh=>by grind
 have e2n0:∀{o},dJ (inv (m++nl)) o=ξ->(E2.n o↔E.n o):=λh=>by grind
 have e2c:∀l b c,E2.r l=ς (b,c)->(∃k,dJ (m++nl) k=ς l/\E'.r k=ς (b,c))\/(dJ (inv (m++nl)) l=ξ/\E.r l=ς (b,c)):=by
  intro l b c h
  cases h1:dJ (inv (m++nl)) l with
  |some k=>exact .inl ⟨k,of_inv' h1,by grind⟩
  |none=>grind
 have oldB:∀{k b c},E'.r k=ς (b,c)->w.heap.size<=b\/∃l o c',dJ m l=ς o/\¬nilL o/\E.r o=ς (b,c')/\rsv k=true:=by
  intro k b c h
  rcases(vo.rb k b c h).2 with h|⟨⟨l,c',h⟩,h2⟩
  .exact .inl h
  obtain⟨o,h3,h4,h5⟩:=hEc l _ h;grind
 have none_of:∀{o},(∀k,dJ m k≠ς o)->o<nx->dJ (inv (m++nl)) o=none:=by
  intro o h1 h2
  cases h:dJ (inv (m++nl)) o with
  |none=>rfl
  |some k=>
   rcases split (of_inv' h) with h3|h3
   .grind
   grind
 have hnot:∀{o},dJ (inv (m++nl)) o=ξ->∀k,dJ m k≠ς o:=λh k h1=>by grind
 have hheap:∀k,k<w.heap.size->(∀l o c,dJ m l=ς o->¬nilL o->E.r o≠ς (k,c))->w'.heap[k]?=w.heap[k]?:=λk hk h=>vo.past.block k hk (λ⟨l,c,h1⟩=>by
  obtain⟨o,h2,h3,h4⟩:=hEc l _ h1;grind)
 have hFh:∀b,E.F b->w'.heap[b]?=w.heap[b]?:=λb hb=>hheap b (ok.fb b hb) (λl o c h1 h2 h3=>nF h1 h2 h3 hb)
 have hHh:∀g b,E.H g b->w'.heap[b]?=w.heap[b]?:=λg b hb=>hFh b (by cases g;exact hb;exact ok.gf b hb)
 have hTh:∀l b,E.T l b->w'.heap[b]?=w.heap[b]?:=λl b hb=>hheap b (ok.sf.tb l b hb).1.1 (λ_ o c _ _ h=>(ok.sf.tb l b hb).2.2.1 o c h)
 have hZh:∀b,cx.Z b->w'.heap[b]?=w.heap[b]?:=λb hb=>hheap b (ok.sf.zc b hb).1.2.1 (λ_ o c _ _ h=>(ok.sf.zc b hb).2.2.1 o c h)
 have okE:da cx E2 w':=by
  refine⟨vo.fb,vo.gf,λb h=>?_,λl b c h=>?_,λl l' b c c' h h'=>?_,by rw[vo.past.os];exact ok.os,by rw[vo.past.tape];exact ok.tape,by rw[vo.past.output];exact ok.output,Y9 ok.size hsz,λb h hW=>?_,λl x hv h=>?_,λb h=>?_,λb h h'=>?_,⟨λl b h=>?_,ok.sf.tt,λb h=>?_,λb h=>?_,ok.sf.ze⟩⟩
  .rcases vo.g0 b h with h|h
   .exact .inl (Y9 ok.size h)
   exact ok.gn b h
  .rcases e2c l b c h with⟨k,h1,h2⟩|⟨h1,h2⟩
   .refine⟨(vo.rb k b c h2).1,?_⟩
    rcases oldB h2 with h3|⟨l',o',c',h3,h4,h5,h6⟩
    .exact .inl (Y9 ok.size h3)
    rcases split h1 with h7|h7
    .rcases(ok.rb o' b c' h5).2 with h8|⟨h8,h9⟩
     .exact .inl h8
     refine .inr ⟨h8,?_⟩
     cases hp:rsp k with
     |true=>
      have h10:=vo.pin k _ hp h2
      obtain⟨o2,h11,_,h13⟩:=hEc k _ h10
      rw[h7] at h11;cases h11
      have:=ok.inj _ _ _ _ _ h13 h5
      grind
     |false=>
      rcases hu with hu|hu
      .rcases hu _ (d8 h7) with h10|h10
       .grind
       exact h10
      rcases hu _ (d8 h3) with h10|h10
      .have h11:rsp l'=true:=h10
       have h12:=inv_of h3
       exfalso
       have hy2:(go ys l').isSome=true:=(hm2 _ (d8 h3)).2.2
       have hv2:Qg ys l'=true:=((hm2 _ (d8 h3)).2.1).resolve_left (by simp[h11])
       unfold Qg at hv2
       split at hv2
       .rename_i t cs hg
        obtain⟨b1,c1,arr,q1,_⟩:=hY _ _ hg
        have q2:=vo.pin l' _ h11 q1
        obtain⟨o2,q3,_,q4⟩:=hEc l' _ q2
        rw[h3] at q3;cases q3
        rw[h5] at q4;cases q4
        have:=vo.inj _ _ _ _ _ q1 h2
        grind
       cases hv2
      grind
    grind
   have:=ok.rb l b c h2;grind
  .rcases e2c l b c h with⟨k,h1,h2⟩|⟨h1,h2⟩<;>rcases e2c l' b c' h' with⟨k',h1',h2'⟩|⟨h1',h2'⟩
   .have:=vo.inj _ _ _ _ _ h2 h2'
    grind
   .exfalso
    rcases oldB h2 with h3|⟨l2,o2,c2,h3,h4,h5,_⟩
    .have:=(ok.rb _ _ _ h2').1;omega
    have:=ok.inj _ _ _ _ _ h5 h2'
    subst this
    exact hnot h1' _ h3
   .exfalso
    rcases oldB h2' with h3|⟨l2,o2,c2,h3,h4,h5,_⟩
    .have:=(ok.rb _ _ _ h2).1;omega
    have:=ok.inj _ _ _ _ _ h5 h2
    subst this
    exact hnot h1 _ h3
   exact ok.inj _ _ _ _ _ h2 h2'
  .rw[hheap b (Yr h ok.size) (λl o c h1 h2 h3=>by
    rcases(ok.rb o b c h3).2 with h4|h4
    .omega
    grind)]
   exact ok.block b h hW
  .obtain⟨b,c⟩:=x
   rcases e2c l b c h with⟨k,h1,h2⟩|⟨_,h2⟩
   .rcases split h1 with h7|h7
    .have hk:rsp k=true:=((hm2 _ (d8 h7)).1).resolve_left (by simp[hv])
     obtain⟨o2,q3,_,q4⟩:=hEc k _ (vo.pin k _ hk h2)
     rw[h7] at q3;cases q3
     exact ok.pin l _ hv q4
    have:=(hcu _ _ h7).2.2.1
    have h9:=F7 hv
    grind
   exact ok.pin l _ hv h2
  .rcases vo.f0 b h with h|h
   .exact ok.ff b h
   exact .inr (Y9 ok.size h.1)
  .rcases vo.f0 b h with h|h
   .exact(ok.gc b h h').of_eq (hFh b h)
   exact h.2
  .obtain⟨k1,k2,k3,k4⟩:=ok.sf.tb l b h
   refine⟨⟨by omega,k1.2⟩,λhf=>?_,λo c ho=>?_,k4.of_eq (hTh l b h)⟩
   .rcases vo.f0 b hf with hf|hf
    .exact k2 hf
    omega
   rcases e2c o b c ho with⟨k,_,h2⟩|⟨_,h2⟩
   .rcases oldB h2 with h3|⟨l2,o2,c2,h3,h4,h5,_⟩
    .omega
    exact k3 _ _ h5
   grind
  .obtain⟨k1,k2,k3,k4⟩:=ok.sf.zc b h
   refine⟨⟨k1.1,by omega,k1.2.2⟩,λhf=>?_,λo c ho=>?_,k4.of_eq (hZh b h)⟩
   .rcases vo.f0 b hf with hf|hf
    .exact k2 hf
    omega
   rcases e2c o b c ho with⟨k,_,h2⟩|⟨_,h2⟩
   .rcases oldB h2 with h3|⟨l2,o2,c2,h3,h4,h5,_⟩
    .omega
    exact k3 _ _ h5
   grind
  exact(ok.sf.zs b h).trans (.of_eq (hZh b h))
 have hHm:∀g b,E.H g b->E2.H g b:=λg b h=>by cases g;exact vo.F b h;exact vo.G b h
 have hkv:∀c c' u,c.lt nx=ζ->kvC (inv m) c=ς c'->cvC E w c u->cvC E2 w' c' u:=by
  intro c c' u hl h hc
  have hnone:∀{l},dJ (inv m) l=ξ->l<nx->dJ (inv (m++nl)) l=none:=λh1 h2=>none_of (λk h3=>by grind) h2
  cases c with
  |d g x=>simp only[kvC] at h;cases h;exact cm (hHh g) (hHm g) x u hc
  |w l n=>
   simp only[kvC] at h
   split at h
   .cases h;trivial
   rename_i h1;cases h
   obtain⟨b,c,h3,h4⟩:=hc
   exact⟨b,c,by rw[e2r0 (hnone h1 (cO hl))];exact h3,h4⟩
  |wn l n=>
   simp only[kvC] at h
   split at h
   .cases h;trivial
   rename_i h1;cases h
   have h2:=hnone h1 (cO hl)
   rcases hc with⟨h3,h4⟩|⟨h3,b,c,h4,h5⟩
   .exact .inl ⟨(e2n0 h2).2 h3,h4⟩
   exact .inr ⟨λh=>h3 ((e2n0 h2).1 h),b,c,by grind,h5⟩
  |s l a1 a2 a3=>
   simp only[kvC] at h
   split at h
   .cases h;trivial
   rename_i h1;cases h
   obtain⟨A,c,b,k,h3,h4⟩:=hc
   exact⟨A,c,b,k,by rw[e2r0 (hnone h1 (cO hl))];exact h3,h4⟩
  |e l a1 a2 a3=>
   simp only[kvC] at h
   split at h
   .cases h;trivial
   rename_i h1;cases h
   obtain⟨b,c,h3,h4⟩:=hc
   exact⟨b,c,by rw[e2r0 (hnone h1 (cO hl))];exact h3,h4⟩
  |p l j=>
   simp only[kvC] at h
   split at h
   .rename_i k h1
    split at h
    .rename_i hp
     cases h
     obtain⟨b,c,h3,h4⟩:=hc
     have h5:=of_inv h1
     have hv2:Qg ys k=true:=((hm2 _ (d8 h5)).2.1).resolve_left (by simp[hp])
     unfold Qg at hv2
     split at hv2
     .rename_i t cs hg
      obtain⟨b1,c1,arr,q1,_⟩:=hY _ _ hg
      obtain⟨o2,q3,_,q4⟩:=hEc k _ (vo.pin k _ hp q1)
      rw[h5] at q3;cases q3
      rw[h3] at q4;cases q4
      exact⟨b,c,by rw[e2r (look_m h5)];exact q1,h4⟩
     cases hv2
    cases h;trivial
   rename_i h1;cases h
   obtain⟨b,c,h3,h4⟩:=hc
   exact⟨b,c,by rw[e2r0 (hnone h1 (cO hl))];exact h3,h4⟩
  |q g y j=>
   simp only[kvC] at h;cases h
   obtain⟨b,k,h1,h2,h3⟩:=hc
   exact⟨b,k,h1,hHm g b h2,rdL_mono (hHh g) (hHm g) y b k h2 h3⟩
  |fn f=>simp only[kvC] at h;cases h;exact hc
  |nil=>simp only[kvC] at h;cases h;exact hc
  |any=>simp only[kvC] at h;cases h;trivial
  |r l x=>simp only[kvC] at h;cases h;exact cm (λb hb=>hTh l b hb) (λb hb=>hb) x u hc
  |z x=>simp only[kvC] at h;cases h;exact sK (λb hb=>.of_eq (hZh b (ok.sf.ze b hb))) (λb hb=>hb) x u hc
  |zq x j=>
   simp only[kvC] at h;cases h
   obtain⟨b,k,h1,h2,h3⟩:=hc
   exact⟨b,k,h1,h2,rsL_mono (λb hb=>.of_eq (hZh b (ok.sf.ze b hb))) (λb hb=>hb) x b k h2 h3⟩
 have hrl:∀c c' u,rlC (m++nl) c=ς c'->cvC E' w' c u->cvC E2 w' c' u:=by
  intro c c' u h hc
  cases c with
  |w l n=>
   simp only[rlC] at h
   split at h
   .rename_i k h1;cases h
    obtain⟨b,c,h3,h4⟩:=hc
    exact⟨b,c,by grind,h4⟩
   cases h
  |wn l n=>
   simp only[rlC] at h
   split at h
   .rename_i k h1;cases h
    rcases hc with⟨h3,h4⟩|⟨h3,b,c,h4,h5⟩
    .exact .inl ⟨(e2n h1).2 h3,h4⟩
    exact .inr ⟨λh=>h3 ((e2n h1).1 h),b,c,by grind,h5⟩
   cases h
  |p l n=>
   simp only[rlC] at h
   split at h
   .rename_i k h1;cases h
    obtain⟨b,c,h3,h4⟩:=hc
    exact⟨b,c,by grind,h4⟩
   cases h
  |s l x y z=>
   simp only[rlC] at h
   split at h
   .rename_i k h1;cases h
    obtain⟨A,q,b,c,h3,h4⟩:=hc
    exact⟨A,q,b,c,by grind,h4⟩
   cases h
  |d g x=>simp only[rlC] at h;cases h;cases g<;>exact hc
  |nil=>simp only[rlC] at h;cases h;exact hc
  |any=>simp only[rlC] at h;cases h;trivial
  |fn f=>simp only[rlC] at h;cases h;exact hc
  |_=>simp only[rlC] at h;cases h
 have hrel:∀{k o:Nat} {y y':Ob},dJ (m++nl) k=ς o->Dp (rlC (m++nl)) y=ς y'->cB E' w' k y->cB E2 w' o y':=λh1 h2 h3=>
  yN h2 hrl (λb c _ h=>by grind) (e2n h1) (λg b h=>by cases g<;>exact h) (λb c _ _ h=>h) h3
 refine⟨E2,okE,λl x h=>?_,λl y hl=>?_,λk=>?_,hR.dfr,by simpa [Act.put] using hR.size,λl b h=>Yr (hR.td l b h) hnn⟩
 .obtain⟨b,c⟩:=x
  rcases e2c l b c h with⟨k,h1,_⟩|⟨_,h2⟩
  .rcases split h1 with h3|h3
   .exact Yr (mrs h3).2 hnn
   grind
  exact Yr (hR.dom l _ h2) hnn
 .rcases Qd hl with h|⟨_,h⟩
  .obtain⟨k,y0,h1,h2,h3⟩:=Cj linj' hw h
   exact hrel h1 h3 (hNW _ _ h2)
  rcases Qd h with h|⟨h0,h⟩
  .obtain⟨k,y0,h1,h2,h3⟩:=Cj linj' hy h
   exact hrel h1 h3 (hY _ _ h2)
  .
    have hnm:∀k,dJ m k≠ς l:=λk h1=>by
     have h2:=(hm2 _ (d8 h1)).2.2
     cases h3:go ys k with
     |none=>grind
     |some y0=>
      obtain⟨o,h4,h5⟩:=Ck hy h3
      grind
    have hno:∀b c,E.r l=ς (b,c)->w'.heap[b]?=w.heap[b]?:=λb c hr=>hheap b (ok.rb l b c hr).1 (λl' o' c' h1 _ h3=>by
     have:=ok.inj _ _ _ _ _ hr h3
     subst this
     exact hnm _ h1)
    have hFn:∀b c,E.r l=ς (b,c)->¬E.F b->¬E2.F b:=λb c hr hn hf=>(vo.f0 b hf).elim hn (λh=>by have:=(ok.rb l b c hr).1;omega)
    rcases tG hb h with⟨t,cs,cs',g1,g2,rfl⟩|⟨x0,g1,g2,g3⟩
    .obtain⟨hln,hxl⟩:=vc hol g1
     have e1:=e2r0 (none_of hnm hln)
     obtain⟨b,c,arr,k1,k2,k3,k4⟩:=hR.obs l _ g1
     refine⟨b,c,arr,by grind,(hno b c k1).trans k2,?_,hFn b c k1 k4⟩
     have key:∀(cs cs':List C) (us:Lae),cs.all (C.lt nx)=ζ->oB (kvC (inv m)) cs=ς cs'->CV E w cs us->CV E2 w' cs' us:=by
      intro cs
      induction cs with
      |nil=>intro cs' us _ h hc;simp[oB] at h;subst h;cases us with
       |nil=>trivial
       |cons _ _=>exact hc.elim
      |cons c cs ih=>
       intro cs' us hl h hc
       simp only[Yy,hV] at hl
       cases us with
       |nil=>exact hc.elim
       |cons u us=>
        simp only[oB] at h
        split at h
        .rename_i h1 h2;simp at h;subst h;exact⟨hkv _ _ _ hl.1 h1 hc.1,ih _ _ hl.2 h2 hc.2⟩
        cases h
     exact key _ _ _ hxl g2 k3
    cases g3
    obtain⟨hln,hxl⟩:=vc hol g1
    have e1:=e2r0 (none_of hnm hln)
    have e3:=e2n0 (none_of hnm hln)
    have hx0:=hR.obs l _ g1
    cases y with
    |var t cs=>grind
    |row t sz els g mm=>
     obtain⟨b,c,arr,k1,k2,k3,k4,k5,k6,k7,k8,k9⟩:=hx0
     exact⟨b,c,arr,by grind,(hno b c k1).trans k2,k3,k4,k5,k6,cf (hHh g) (hHm g) (hno b c k1) _ _ k7,λhm=>hFn b c k1 (k8 hm),λhm=>⟨hHm η b (k9 hm).1,λhg=>hHm ζ b ((k9 hm).2 hg)⟩⟩
    |rown t sz els g=>
     rcases hx0 with⟨k1,k2⟩|⟨k0,b,c,arr,k1,k2,k3,k4,k5,k6,k7,k8⟩
     .exact .inl ⟨e3.2 k1,k2⟩
     exact .inr ⟨λh=>k0 (e3.1 h),b,c,arr,by grind,(hno b c k1).trans k2,k3,k4,k5,k6,cf (hHh g) (hHm g) (hno b c k1) _ _ k7,hFn b c k1 k8⟩
    |abs j z=>
     rcases hx0 with⟨k1,k2⟩|⟨k0,b,c,k1,k2,k3⟩
     .exact .inl ⟨e3.2 k1,k2⟩
     exact .inr ⟨λh=>k0 (e3.1 h),b,c,by grind,z.st _ _ _ _ _ _ k2 (λk hk=>hk) (hno b c k1) (λk hk=>hTh j k hk),hFn b c k1 k3⟩
 rw[gu (by rw[hR.size];exact cO hN)]
 by_cases hdk:d=k
 .subst hdk;rw[cW,if_pos rfl];exact yy hrl ho hv
 rw[cy _ _ hdk,if_neg hdk]
 rw[<-LE hsl] at hs
 refine yx (λc c' u h hc=>?_) hs (hR.sl k)
 unfold ltF at h
 cases hl:c.lt nx with
 |true=>grind
 |false=>rw[hl] at h;cases h;trivial
theorem cwv{d:Tmp}{ob ob1 ob2:Laa}{xs ys ys' nw':Laa}(m nl:Lac)(n:Nat)(hF:FnV P f xs ts' ys out nw)(ht:pj sl args=ς ts:=by exact rfl)(ha:p6 (agC η ob (inv m)) ts=ς ts':=by exact rfl)(hx:xg (inv m) ob m=ς xs:=by exact rfl)(hm:mOK m nl nx n ys=true:=by exact rfl)(hs:tH (kvC (inv m)) sl=ς sl':=by exact rfl)(hb:sD (kvC (inv m)) (λ_ x=>ς x) ob=ς ob':=by exact rfl)(hy:qg (m++nl) ys=ς ys':=by exact rfl)(hw:qg (m++nl) nw=ς nw':=by exact rfl)(ho:wV (rlC (m++nl)) out=ς out':=by exact rfl)(hsl:wY nx sl=true:=by exact rfl)(hol:qR nx ob=true:=by exact rfl)(hN:nlt d N=true:=by exact rfl)(h1:apO ys' ob'=ς ob1:=by exact rfl)(h2:apO nw' ob1=ς ob2:=by exact rfl):
 AWO P N ⟨ς d,.call ⟨.value (.func f),args.toArray,tys⟩,ty,ps,af,gd⟩ ⟨sl,ob,nx⟩ ⟨(d,out')::sl',ob2,n⟩:=by
 rw[rL h2,rL h1]
 exact FV hF ht ha hx hm hs hb hy hw ho hsl hol hN
theorem cwu{d:Tmp}{ob ob1 ob2:Laa}{xs ys ys' nw':Laa}(m nl:Lac)(n:Nat)(hF:FnV P f xs ts' ys out nw)(ht:pj sl args=ς ts:=by exact rfl)(ha:p6 (agC ζ ob (inv m)) ts=ς ts':=by exact rfl)(hx:xg (inv m) ob m=ς xs:=by exact rfl)(hm:mOK m nl nx n ys=true:=by exact rfl)(hs:tH (kvC (inv m)) sl=ς sl':=by exact rfl)(hb:sD (kvC (inv m)) (λ_ x=>ς x) ob=ς ob':=by exact rfl)(hy:qg (m++nl) ys=ς ys':=by exact rfl)(hw:qg (m++nl) nw=ς nw':=by exact rfl)(ho:wV (rlC (m++nl)) out=ς out':=by exact rfl)(hsl:wY nx sl=true:=by exact rfl)(hol:qR nx ob=true:=by exact rfl)(hN:nlt d N=true:=by exact rfl)(h1:apO ys' ob'=ς ob1:=by exact rfl)(h2:apO nw' ob1=ς ob2:=by exact rfl):
 AWO P N ⟨ς d,.call ⟨.value (.func f),args.toArray,tys⟩,ty,ps,af,gd⟩ ⟨sl,ob,nx⟩ ⟨(d,out')::sl',ob2,n⟩:=by
 rw[rL h2,rL h1]
 exact FV hF ht ha hx hm hs hb hy hw ho hsl hol hN
section
variable{P:Program}{d:Option Tmp}{ty:TypeId}{ps:String}{af:Array Edge}{gd:Option (Nat×Bool)}{x y z:Operand}
theorem Es{o h c:Nat}(hr:E.r o=ς (b,c))(h1:l<=h)(h2:h<=n)(hlc:n<=c):cvC E w (.s o sz l (h-l)) (sliced (ς ⟨b,0,ξ⟩) l h c sz):=by
 refine⟨_,_,b,c,hr,rfl,by omega,by omega,?_⟩
 by_cases hlh:c=l
 .left;omega
 right
 rw[if_neg oaa]
 simp[Addr.add]
 omega
theorem JR{t by_:Nat}{g2:Bool}{o:Nat}{rt:TypeId}{h:Int}{hi:Operand}[ht:dB P t e sz by_](hn:els.length=n)(h0:0<=h)(h2:h<=n):
 AWN P ⟨d,.slice t x ξ (ς hi) ξ,ty,ps,af,gd⟩ [(x,.v (.c (.w o n))),(hi,.v (.c (.d g2 (.i .i64 h))))] [(o,.row rt sz els g m)] (.v (.c (.s o sz 0 h.toNat))) []:=
 cd λE ac w hne hob=>by
  have k1:=hne x _ (.head _)
  have k3:=gz (hne hi _ (.tail _ (.head _)))
  obtain⟨b,c,hr,hu⟩:=k1
  obtain⟨b',c',arr,hr',_,_,hlc,_⟩:=hob o _ (.head _)
  rw[hr] at hr';cases hr'
  obtain⟨i,z,hi1,hi2,_⟩:=ht.i
  obtain⟨he,hu'⟩:=we ht.u
  refine⟨sliced (ς ⟨b,0,ξ⟩) 0 h.toNat c sz,?_,Es (w:=w) (n:=n) hr (Yu _) oaa oaa⟩
  simp[execOp,hu,k3,run_sliceAt_slice w t _ _ _ _ hu',run_slice_h w t (ς ⟨b,0,ξ⟩) n c hu' .i64 h h0 oaa,he,eA hi1,hi2]
theorem JS{t by_:Nat}{g2:Bool}{o:Nat}{rt:TypeId}{l:Int}{lo:Operand}[ht:dB P t e sz by_](hn:els.length=n)(h0:0<=l)(h2:l<=n):
 AWN P ⟨d,.slice t x (ς lo) ξ ξ,ty,ps,af,gd⟩ [(x,.v (.c (.w o n))),(lo,.v (.c (.d g2 (.i .i64 l))))] [(o,.row rt sz els g m)] (.v (.c (.s o sz l.toNat (n-l.toNat)))) []:=
 cd λE ac w hne hob=>by
  have k1:=hne x _ (.head _)
  have k3:=gz (hne lo _ (.tail _ (.head _)))
  obtain⟨b,c,hr,hu⟩:=k1
  obtain⟨b',c',arr,hr',_,_,hlc,_⟩:=hob o _ (.head _)
  rw[hr] at hr';cases hr'
  obtain⟨i,z,hi1,hi2,_⟩:=ht.i
  obtain⟨he,hu'⟩:=we ht.u
  refine⟨sliced (ς ⟨b,0,ξ⟩) l.toNat n c sz,?_,Es (w:=w) (n:=n) hr oaa (Yj _) oaa⟩
  simp[execOp,hu,k3,run_sliceAt_slice w t _ _ _ _ hu',run_slice_l w t (ς ⟨b,0,ξ⟩) n c hu' .i64 l h0 oaa,he,eA hi1,hi2]
theorem JL{by_:Nat}{kd:IntKind}{o:Nat}{i:Int}[ht:dB P t e sz by_](h0:0<=i)(h1:i<n):
 AWN P ⟨d,.indexAddr t x y,ty,ps,af,gd⟩ [(x,.v (.c (.wn o n))),(y,.v (.c (.d g (.i kd i))))] [] (.v (.c (.e o sz i.toNat 0))) []:=by
 intro cx E a w ok hn hb hf
 have h2:cvT E w (.v (.c (.w o n))) (a.eval x):=by
  rcases hn x _ (.head _) with⟨_,h,_⟩|⟨_,h⟩
  .omega
  exact h
 exact D1 (P:=P) (d:=d) (ty:=ty) (ps:=ps) (af:=af) (gd:=gd) (g:=g) (kd:=kd) (t:=t) h0 h1 cx E a w ok (λz u hm=>by
  grind) (λ_ _ h=>by cases h) hf
theorem Af{o:Nat}{rt:TypeId}{el:List D}(he:els[i]?=ς el)(h:cB E w o (.rown rt sz els g)):cB E w o (.row rt sz els g ζ):=by
 rcases h with⟨_,h⟩|⟨_,b,c,arr,k1,k2,k3,k4,k5,k6,k7,k8⟩
 .simp_all
 exact⟨b,c,arr,k1,k2,k3,k4,k5,k6,k7,λ_=>k8,λh=>by cases h⟩
theorem NL{o:Nat}{rt:TypeId}{el:List D}{c:C}[ht:ic P t](he:els[i]?=ς el)(hc:ld1 g j el=ς c):
 AWN P ⟨d,.load t x,ty,ps,af,gd⟩ [(x,.v (.c (.e o sz i j)))] [(o,.rown rt sz els g)] (.v (.c c)) []:=by
 intro cx E a w ok hn hb hf
 exact D2 (P:=P) (m:=ζ) he hc cx E a w ok hn (λl x h=>by simp at h;obtain⟨rfl,rfl⟩:=h;exact Af he (hb _ _ (.head _))) hf
theorem Dj{o:Nat}{rt:TypeId}{el:List D}[ht:fU P t n](he:els[i]?=ς el)(hj:B2 g j n el=ς cs):
 AWN P ⟨d,.load t x,ty,ps,af,gd⟩ [(x,.v (.c (.e o sz i j)))] [(o,.rown rt sz els g)] (.v (.agg cs)) []:=by
 intro cx E a w ok hn hb hf
 exact xe (P:=P) (m:=ζ) he hj cx E a w ok hn (λl x h=>by simp at h;obtain⟨rfl,rfl⟩:=h;exact Af he (hb _ _ (.head _))) hf
theorem T7{args:Array Operand}(h:a.eval x= .func (.func f) #[] #[]):
 execOp a.eval ⟨d,.call ⟨.value x,args,tys⟩,ty,ps,af,gd⟩=execOp a.eval ⟨d,.call ⟨.value (.func f),args,tys⟩,ty,ps,af,gd⟩:=by
 have e:a.eval (.func f)= .func (.func f) #[] #[]:=rfl
 simp only[execOp,resolve,h,e]
theorem Wb{args:Array Operand}{needs:List (Operand×T)}(h:AWN P ⟨d,.call ⟨.value (.func f),args,tys⟩,ty,ps,af,gd⟩ needs nob out nw):
 AWN P ⟨d,.call ⟨.value x,args,tys⟩,ty,ps,af,gd⟩ ((x,.v (.c (.fn f)))::needs) nob out nw:=by
 intro cx E a w ok hn hb hf
 have:=h cx E a w ok (λy t hm=>hn y t (.tail _ hm)) hb hf
 have e:a.eval x= .func (.func f) #[] #[]:=hn x _ (.head _)
 unfold Oper.wp at this ⊢
 rw[T7 e]
 exact this
end
section
variable{P:Program}{N:Nat}{d:Tmp}{ty:TypeId}{ps:String}{af:Array Edge}{gd:Option (Nat×Bool)}{x y z:Operand}{sl:Lab}{ob:Laa}{nx:Nat}{α:Type}{enc:α->List D}
theorem ns_fn{args:Array Operand}{st':St}{i:Inf}(hx:opT st.sl x= .v (.c (.fn f)))(h:NS P N ⟨ς d,.call ⟨.value (.func f),args,tys⟩,ty,ps,af,gd⟩ st st' i):
 NS P N ⟨ς d,.call ⟨.value x,args,tys⟩,ty,ps,af,gd⟩ st st' {i with needs:=(x,.v (.c (.fn f)))::i.needs}:=by
 obtain⟨h1,h2,h3,h4,h5,h6,h7⟩:=h
 exact⟨Wb h1,h2,h3,⟨hx,h4⟩,h5,h6,h7⟩
theorem TR{t by_:Nat}{g2:Bool}{o:Nat}{ys:List α}{rt:TypeId}{h:Int}{hi:Operand}[ht:dB P t e sz by_](H:fa ys 0 h=ζ)(hn:ys.length=n)(hx:opT sl x= .v (.c (.w o n)))(ho:go ob o=ς (.row rt sz (ys.map enc) g m))(hh:opT sl hi= .v (.c (.d g2 (.i .i64 h))))(hN:nlt d N=ζ):
 NS0 P N ⟨ς d,.slice t x ξ (ς hi) ξ,ty,ps,af,gd⟩ sl ob nx d (.v (.c (.s o sz 0 h.toNat))) ⟨d,[(x,.v (.c (.w o n))),(hi,.v (.c (.d g2 (.i .i64 h))))],[(o,.row rt sz (ys.map enc) g m)],.v (.c (.s o sz 0 h.toNat)),[]⟩:=by
 simp only[fa,decide_eq_true_eq] at H
 exact dh (st:=⟨sl,ob,nx⟩) (JR (by simp_all) H.2.1 oaa) rfl hN ⟨hx,hh,θ⟩ ⟨ho,θ⟩ rfl
theorem TS{t by_:Nat}{g2:Bool}{o:Nat}{ys:List α}{rt:TypeId}{l:Int}{lo:Operand}[ht:dB P t e sz by_](H:fa ys l ys.length=ζ)(hn:ys.length=n)(hx:opT sl x= .v (.c (.w o n)))(ho:go ob o=ς (.row rt sz (ys.map enc) g m))(hl:opT sl lo= .v (.c (.d g2 (.i .i64 l))))(hN:nlt d N=ζ):
 NS0 P N ⟨ς d,.slice t x (ς lo) ξ ξ,ty,ps,af,gd⟩ sl ob nx d (.v (.c (.s o sz l.toNat (n-l.toNat)))) ⟨d,[(x,.v (.c (.w o n))),(lo,.v (.c (.d g2 (.i .i64 l))))],[(o,.row rt sz (ys.map enc) g m)],.v (.c (.s o sz l.toNat (n-l.toNat))),[]⟩:=by
 simp only[fa,decide_eq_true_eq] at H
 exact dh (st:=⟨sl,ob,nx⟩) (JS (by simp_all) H.1 oaa) rfl hN ⟨hx,hl,θ⟩ ⟨ho,θ⟩ rfl
theorem IO{o:Nat}{ys:List α}{h:Int}(H:fa ys 0 h=ζ)(ho:go ob o=ς (.row t sz (ys.map enc) g m)):Src ob (.s o sz 0 h.toNat) ((ys.take h.toNat).map enc) g:=by
 simp only[fa,decide_eq_true_eq] at H
 have:=Src.s (off:=0) (len:=h.toNat) ho (by simp;omega)
 simp_all
theorem Et{o:Nat}{ys:List α}{l:Int}(H:fa ys l ys.length=ζ)(hn:ys.length=n)(ho:go ob o=ς (.row t sz (ys.map enc) g m)):Src ob (.s o sz l.toNat (n-l.toNat)) ((ys.drop l.toNat).map enc) g:=by
 simp only[fa,decide_eq_true_eq] at H
 subst hn
 have:=Src.s (off:=l.toNat) (len:=ys.length-l.toNat) ho (by simp;omega)
 rwa [<-Zh,List.take_of_length_le (by simp)] at this
theorem mb{by_:Nat}{kd:IntKind}{o:Nat}{i:Int}{ys:List α}{a:α}[dB P t e sz by_](H:ix ys i=ς a)(hx:opT sl x= .v (.c (.wn o n)):=by exact rfl)(hy:opT sl y= .v (.c (.d g (.i kd i))):=by exact rfl)(hn:ys.length=n:=by first|rfl|simp)(hN:nlt d N=true:=by exact rfl):
 NS0 P N ⟨ς d,.indexAddr t x y,ty,ps,af,gd⟩ sl ob nx d (.v (.c (.e o sz i.toNat 0))) ⟨d,[(x,.v (.c (.wn o n))),(y,.v (.c (.d g (.i kd i))))],[],.v (.c (.e o sz i.toNat 0)),[]⟩:=
 dh (st:=⟨sl,ob,nx⟩) (JL (ixE H).1 (by have:=Qw H;omega)) rfl hN ⟨hx,hy,θ⟩ trivial rfl
theorem oen{o:Nat}{rt:TypeId}{el:List D}{c:C}[ic P t](hx:opT sl x= .v (.c (.e o sz i j)):=by exact rfl)(ho:go ob o=ς (.rown rt sz els g):=by exact rfl)(hN:nlt d N=true:=by exact rfl)(he:els[i]?=ς el)(hc:ld1 g j el=ς c:=by exact rfl):
 NS0 P N ⟨ς d,.load t x,ty,ps,af,gd⟩ sl ob nx d (.v (.c c)) ⟨d,[(x,.v (.c (.e o sz i j)))],[(o,.rown rt sz els g)],.v (.c c),[]⟩:=dh (st:=⟨sl,ob,nx⟩) (NL he hc) rfl hN ⟨hx,θ⟩ ⟨ho,θ⟩ rfl
theorem WU{o:Nat}{rt:TypeId}{el:List D}[fU P t n](hx:opT sl x= .v (.c (.e o sz i j)):=by exact rfl)(ho:go ob o=ς (.rown rt sz els g):=by exact rfl)(hN:nlt d N=true:=by exact rfl)(he:els[i]?=ς el)(hc:B2 g j n el=ς cs:=by exact rfl):
 NS0 P N ⟨ς d,.load t x,ty,ps,af,gd⟩ sl ob nx d (.v (.agg cs)) ⟨d,[(x,.v (.c (.e o sz i j)))],[(o,.rown rt sz els g)],.v (.agg cs),[]⟩:=dh (st:=⟨sl,ob,nx⟩) (Dj he hc) rfl hN ⟨hx,θ⟩ ⟨ho,θ⟩ rfl
theorem uq{ys:List α}{i:Int}{a:α}(H:ix ys i=ς a):ys.map enc≠[]:=by
 intro h
 have:=Qw H
 have h0:=(ixE H).1
 rw[List.map_eq_nil_iff] at h
 grind
end
theorem wnn{o n':Nat}(h:gt sl k= .v (.c (.wn o n)))(hn:n=n'):gt sl k= .v (.c (.wn o n')):=hn▸h
def P9(o:Nat)(x:D)(g:Bool)(k:Nat):C->Option (C×Lac)
 | .wn l n=>match f4 l o with
  |true=>ς (.d g x,[(k,n)])
  |false=>ς (.wn l n,[])
 |c=>ς (c,[])
def DQ(o:Nat)(x:D)(g:Bool)(k:Nat):List C->Option (List C×Lac)
 |[]=>ς ([],[])
 |c::cs=>match P9 o x g k c,DQ o x g k cs with
  |some (x,e),ς (xs,es)=>ς (x::xs,e++es)
  |_,_=>ξ
def Qb(o:Nat)(x:D)(g:Bool)(k:Nat):V->Option (V×Lac)
 | .c c=>match P9 o x g k c with
  |some (x,e)=>ς (.c x,e)
  |none=>ξ
 | .agg cs=>match DQ o x g k cs with
  |some (x,e)=>ς (.agg x,e)
  |none=>ξ
def Ht(o:Nat)(x:D)(g:Bool)(k:Nat):List V->Option (List V×Lac)
 |[]=>ς ([],[])
 |c::cs=>match Qb o x g k c,Ht o x g k cs with
  |some (x,e),ς (xs,es)=>ς (x::xs,e++es)
  |_,_=>ξ
def Qa(o:Nat)(x:D)(g:Bool)(k:Nat):T->Option (T×Lac)
 | .v v=>match Qb o x g k v with
  |some (x,e)=>ς (.v x,e)
  |none=>ξ
 | .tup vs=>match Ht o x g k vs with
  |some (x,e)=>ς (.tup x,e)
  |none=>ξ
 | .any=>ς (.any,[])
def Nj(o:Nat)(x:D)(g:Bool)(k:Nat):Lab->Option (Lab×Lac)
 |[]=>ς ([],[])
 |(j,t)::r=>match Qa o x g k t,Nj o x g k r with
  |some (x,e),ς (xs,es)=>ς ((j,x)::xs,e++es)
  |_,_=>ξ
def uA(o:Nat)(x:D)(g:Bool)(k:Nat):Laa->Option (Laa×Lac)
 |[]=>ς ([],[])
 |(j,.var t cs)::r=>match f4 j o with
  |true=>ξ
  |false=>match DQ o x g k cs,uA o x g k r with
   |some (x,e),ς (xs,es)=>ς ((j,.var t x)::xs,e++es)
   |_,_=>ξ
 |(j,.row t sz els gg m)::r=>match uA o x g k r with
  |some (xs,es)=>match f4 j o with
   |true=>ς (xs,es)
   |false=>ς ((j,.row t sz els gg m)::xs,es)
  |none=>ξ
 |(j,.rown t sz els gg)::r=>match uA o x g k r with
  |some (xs,es)=>match f4 j o with
   |true=>ς (xs,es)
   |false=>ς ((j,.rown t sz els gg)::xs,es)
  |none=>ξ
 |(j,.abs i y)::r=>match uA o x g k r with
  |some (xs,es)=>match f4 j o with
   |true=>ς (xs,es)
   |false=>ς ((j,.abs i y)::xs,es)
  |none=>ξ
section
variable{E E':Env}{w:World}{o k:Nat}{x:D}{g:Bool}(hd:∀u,cvC E w (.wn o k) u->cvC E' w (.d g x) u)(hk:jV E w E' w)
include hd hk
theorem Ld{c c':C}{e:Lac}(h:P9 o x g k c=ς (c',e))(he:Eqs e)(hc:cvC E w c u):cvC E' w c' u:=by
 cases c with
 |wn l n=>
  simp only[P9] at h
  split at h
  .rename_i hb
   have:=Yf hb
   subst this
   simp at h;obtain⟨rfl,rfl⟩:=h
   have hn:k=n:=he.1
   simp_all
  simp at h;obtain⟨rfl,rfl⟩:=h;exact sj hk hc
 |_=>simp only[P9,Option.some.injEq,Prod.mk.injEq] at h;obtain⟨rfl,rfl⟩:=h;exact sj hk hc
theorem BQ:∀{cs cs':List C} {e:Lac} {us:Lae},DQ o x g k cs=ς (cs',e)->Eqs e->CV E w cs us->CV E' w cs' us
 |[],cs',e,us,h,_,hc=>by
  simp[DQ] at h;obtain⟨rfl,rfl⟩:=h
  cases us with
  |nil=>trivial
  |cons _ _=>exact hc.elim
 |c::cs,cs',e,us,h,he,hc=>by
  cases us with
  |nil=>exact hc.elim
  |cons u us=>
   simp only[DQ] at h
   split at h
   .rename_i h1 h2
    simp at h;obtain⟨rfl,rfl⟩:=h
    obtain⟨k1,k2⟩:=dO he
    exact⟨Ld hd hk h1 k1 hc.1,BQ h2 k2 hc.2⟩
   cases h
theorem Le{v v':V}{e:Lac}(h:Qb o x g k v=ς (v',e))(he:Eqs e)(hv:cvV E w v u):cvV E' w v' u:=by
 cases v with
 |c c=>
  simp only[Qb] at h
  split at h
  .rename_i h1;simp at h;obtain⟨rfl,rfl⟩:=h;exact Ld hd hk h1 he hv
  cases h
 |agg cs=>
  simp only[Qb] at h
  split at h
  .rename_i h1;simp at h;obtain⟨rfl,rfl⟩:=h;obtain⟨arr,hu,hc⟩:=hv;exact⟨arr,hu,BQ hd hk h1 he hc⟩
  cases h
theorem Hu:∀{cs cs':List V} {e:Lac} {us:Lae},Ht o x g k cs=ς (cs',e)->Eqs e->VV E w cs us->VV E' w cs' us
 |[],cs',e,us,h,_,hc=>by
  simp[Ht] at h;obtain⟨rfl,rfl⟩:=h
  cases us with
  |nil=>trivial
  |cons _ _=>exact hc.elim
 |c::cs,cs',e,us,h,he,hc=>by
  cases us with
  |nil=>exact hc.elim
  |cons u us=>
   simp only[Ht] at h
   split at h
   .rename_i h1 h2
    simp at h;obtain⟨rfl,rfl⟩:=h
    obtain⟨k1,k2⟩:=dO he
    exact⟨Le hd hk h1 k1 hc.1,Hu h2 k2 hc.2⟩
   cases h
theorem Uc{v v':T}{e:Lac}(h:Qa o x g k v=ς (v',e))(he:Eqs e)(hv:cvT E w v u):cvT E' w v' u:=by
 cases v with
 |v v=>
  simp only[Qa] at h
  split at h
  .rename_i h1;simp at h;obtain⟨rfl,rfl⟩:=h;exact Le hd hk h1 he hv
  cases h
 |tup vs=>
  simp only[Qa] at h
  split at h
  .rename_i h1;simp at h;obtain⟨rfl,rfl⟩:=h;obtain⟨arr,hu,hc⟩:=hv;exact⟨arr,hu,Hu hd hk h1 he hc⟩
  cases h
 |any=>simp[Qa] at h;obtain⟨rfl,rfl⟩:=h;trivial
theorem Fm{j:Nat}{u:Value}:∀{sl sl':Lab} {e:Lac},Nj o x g k sl=ς (sl',e)->Eqs e->cvT E w (gt sl j) u->cvT E' w (gt sl' j) u
 |[],sl',e,h,_,_=>by simp[Nj] at h;obtain⟨rfl,rfl⟩:=h;trivial
 |(i,t)::r,sl',e,h,he,hc=>by
  simp only[Nj] at h
  split at h
  .rename_i h1 h2
   simp at h;obtain⟨rfl,rfl⟩:=h
   obtain⟨k1,k2⟩:=dO he
   by_cases hj:i=j
   .subst hj;rw[cW] at hc ⊢;exact Uc hd hk h1 k1 hc
   rw[cy _ _ hj] at hc ⊢;exact Fm h2 k2 hc
  cases h
theorem pf{l:Nat}{y:Ob}(hlo:l≠o)(hF:∀b c,E.r l=ς (b,c)->¬E.F b->¬E'.F b):∀{ob ob':Laa} {e:Lac},uA o x g k ob=ς (ob',e)->Eqs e->go ob' l=ς y->(∀y,go ob l=ς y->cB E w l y)->cB E' w l y
 |[],ob',e,h,_,hy,_=>by simp[uA] at h;obtain⟨rfl,rfl⟩:=h;cases hy
 |(i,.var t cs)::r,ob',e,h,he,hy,hb=>by
  simp only[uA] at h
  split at h
  .cases h
  split at h
  .rename_i a1 a2
   simp at h;obtain⟨rfl,rfl⟩:=h
   obtain⟨k1,k2⟩:=dO he
   by_cases hi:i=l
   .subst hi
    rw[b9] at hy;cases hy
    obtain⟨b,c,arr,q1,q2,q3,q4⟩:=hb _ (b9 _ _ _)
    exact⟨b,c,arr,hk.r _ _ q1,q2,BQ hd hk a1 k1 q3,hF b c q1 q4⟩
   rw[bG _ _ hi] at hy
   exact pf hlo hF a2 k2 hy (λy hy=>hb y (by rw[bG _ _ hi];exact hy))
  cases h
 |(i,.row t sz els gg m)::r,ob',e,h,he,hy,hb=>by
  simp only[uA] at h
  split at h
  .rename_i a2
   split at h
   .rename_i hb2
    simp at h;obtain⟨rfl,rfl⟩:=h
    have hio:=Yf hb2
    exact pf hlo hF a2 he hy (λy hy=>hb y (by rw[bG _ _ (λe=>hlo (e.symm.trans hio))];exact hy))
   simp at h;obtain⟨rfl,rfl⟩:=h
   by_cases hi:i=l
   .subst hi
    rw[b9] at hy;cases hy
    exact f8 hk (λ_ _ _=>rfl) (λb c hr=>hF b c hr) (hb _ (b9 _ _ _))
   rw[bG _ _ hi] at hy
   exact pf hlo hF a2 he hy (λy hy=>hb y (by rw[bG _ _ hi];exact hy))
  cases h
 |(i,.rown t sz els gg)::r,ob',e,h,he,hy,hb=>by
  simp only[uA] at h
  split at h
  .rename_i a2
   split at h
   .rename_i hb2
    simp at h;obtain⟨rfl,rfl⟩:=h
    have hio:=Yf hb2
    exact pf hlo hF a2 he hy (λy hy=>hb y (by rw[bG _ _ (λe=>hlo (e.symm.trans hio))];exact hy))
   simp at h;obtain⟨rfl,rfl⟩:=h
   by_cases hi:i=l
   .subst hi
    rw[b9] at hy;cases hy
    exact f8 hk (λ_ _ _=>rfl) (λb c hr=>hF b c hr) (hb _ (b9 _ _ _))
   rw[bG _ _ hi] at hy
   exact pf hlo hF a2 he hy (λy hy=>hb y (by rw[bG _ _ hi];exact hy))
  cases h
 |(i,.abs _ _)::r,ob',e,h,he,hy,hb=>by
  simp only[uA] at h
  split at h
  .rename_i a2
   split at h
   .rename_i hb2
    simp at h;obtain⟨rfl,rfl⟩:=h
    have hio:=Yf hb2
    exact pf hlo hF a2 he hy (λy hy=>hb y (by rw[bG _ _ (λe=>hlo (e.symm.trans hio))];exact hy))
   simp at h;obtain⟨rfl,rfl⟩:=h
   by_cases hi:i=l
   .subst hi
    rw[b9] at hy;cases hy
    exact f8 hk (λ_ _ _=>rfl) (λb c hr=>hF b c hr) (hb _ (b9 _ _ _))
   rw[bG _ _ hi] at hy
   exact pf hlo hF a2 he hy (λy hy=>hb y (by rw[bG _ _ hi];exact hy))
  cases h
end
theorem kL{o k:Nat}{x:D}{g:Bool}:∀{ob ob':Laa} {e:Lac},uA o x g k ob=ς (ob',e)->go ob' o=ξ
 |[],ob',e,h=>by simp[uA] at h;obtain⟨rfl,rfl⟩:=h;rfl
 |(i,.var t cs)::r,ob',e,h=>by
  simp only[uA] at h
  split at h
  .cases h
  rename_i hb
  split at h
  .rename_i a1 a2
   simp at h;obtain⟨rfl,rfl⟩:=h
   rw[bG _ _ (iN hb)];exact kL a2
  cases h
 |(i,.row t sz els gg m)::r,ob',e,h=>by
  simp only[uA] at h
  split at h
  .rename_i a2
   split at h
   .simp at h;obtain⟨rfl,rfl⟩:=h;exact kL a2
   rename_i hb
   simp at h;obtain⟨rfl,rfl⟩:=h
   rw[bG _ _ (iN hb)];exact kL a2
  cases h
 |(i,.rown t sz els gg)::r,ob',e,h=>by
  simp only[uA] at h
  split at h
  .rename_i a2
   split at h
   .simp at h;obtain⟨rfl,rfl⟩:=h;exact kL a2
   rename_i hb
   simp at h;obtain⟨rfl,rfl⟩:=h
   rw[bG _ _ (iN hb)];exact kL a2
  cases h
 |(i,.abs _ _)::r,ob',e,h=>by
  simp only[uA] at h
  split at h
  .rename_i a2
   split at h
   .simp at h;obtain⟨rfl,rfl⟩:=h;exact kL a2
   rename_i hb
   simp at h;obtain⟨rfl,rfl⟩:=h
   rw[bG _ _ (iN hb)];exact kL a2
  cases h
theorem gm{ty:Nat}{ob:Laa}{e1 e2:Lac}(o:Nat)(hrv:rsv o=false:=by exact rfl)(ho:go ob o=ς (.rown ty sz els g):=by exact rfl)(hs:Nj o (.l els) g els.length sl=ς (sl',e1):=by exact rfl)(hb:uA o (.l els) g els.length ob=ς (ob',e2):=by exact rfl)(h1:Eqs e1:=by repeat (first|exact θ|refine⟨by first|rfl|simp,?_⟩))(h2:Eqs e2:=by repeat (first|exact θ|refine⟨by first|rfl|simp,?_⟩)):
 cM N ⟨sl,ob,nx⟩ ⟨sl',ob',nx⟩:=by
 intro cx E a w hR
 rcases hR.obs o _ ho with⟨hE,hels⟩|⟨hE,b,c,arr,hr,hh,ha,hlc,hmx,hes,hrd,hF⟩
 .have hk:jV E w E w:=⟨λ_ _ h=>h,λ_ _ h=>h,λ_ _ _=>rfl,λ_ _ h=>⟨h,rfl⟩,λ_ h=>⟨h,.refl _ _⟩,rfl⟩
  have hd:∀u,cvC E w (.wn o els.length) u->cvC E w (.d g (.l els)) u:=by
   intro u hu
   rcases hu with⟨_,_,rfl⟩|⟨hu,_⟩
   .subst hels;show rdD _ _ _ _;rw[rdD];simp_all
   simp_all
  refine⟨E,hR.ok,hR.dom,λl y hl=>?_,λj=>Fm hd hk hs h1 (hR.sl j),hR.dfr,hR.size,hR.td⟩
  by_cases e:l=o
  .subst e;rw[kL hb] at hl;cases hl
  exact pf hd hk e (λ_ _ _ h=>h) hb h2 hl (λy hy=>hR.obs l y hy)
 obtain⟨hb1,hb2⟩:=hR.ok.rb o b c hr
 have hb3:cx.w0.heap.size<=b:=hb2.resolve_right (λh=>by simp_all)
 let E':Env:=⟨E.r,λk=>E.F k\/k=b,λk=>E.G k\/(g=ζ/\k=b),E.T,E.Z,E.n⟩
 have hH:∀g' k,E.H g' k->E'.H g' k:=λg' k hk=>by cases g'<;>exact .inl hk
 have hk:jV E w E' w:=⟨λ_ _ h=>h,hH,λ_ _ _=>rfl,λ_ _ h=>⟨h,rfl⟩,λ_ h=>⟨h,.refl _ _⟩,rfl⟩
 have hd:∀u,cvC E w (.wn o els.length) u->cvC E' w (.d g (.l els)) u:=by
  intro u hu
  rcases hu with⟨hu,_⟩|⟨_,b',c',hr',rfl⟩
  .simp_all
  rw[hr] at hr';cases hr'
  show rdD _ _ _ _
  rw[rdD]
  refine⟨_,_,rfl,hlc,.inr ⟨b,0,rfl,?_,cf (λ_ _=>rfl) (hH g) rfl _ _ hrd⟩⟩
  cases g
  .exact .inr rfl
  exact .inr ⟨rfl,rfl⟩
 refine⟨E',⟨?_,?_,?_,hR.ok.rb,hR.ok.inj,hR.ok.os,hR.ok.tape,hR.ok.output,hR.ok.size,hR.ok.block,hR.ok.pin,λk hk=>hk.elim (hR.ok.ff k) (λe=>.inr (e▸hb3)),λk hk hk'=>hk.elim (λh=>hR.ok.gc k h hk') (λe=>e▸.mk hh),
  ⟨λl k h=>?_,hR.ok.sf.tt,λk h=>?_,hR.ok.sf.zs,hR.ok.sf.ze⟩⟩,hR.dom,λl y hl=>?_,λj=>Fm hd hk hs h1 (hR.sl j),hR.dfr,hR.size,hR.td⟩
 .rintro k (h|rfl)
  .exact hR.ok.fb k h
  exact hb1
 .rintro k (h|⟨_,rfl⟩)
  .exact .inl (hR.ok.gf k h)
  omega
 .rintro k (h|⟨_,rfl⟩)
  .exact hR.ok.gn k h
  omega
 .obtain⟨h1,h2,h3,h4⟩:=hR.ok.sf.tb l k h
  grind
 .obtain⟨h1,h2,h3,h4⟩:=hR.ok.sf.zc k h
  grind
 by_cases e:l=o
 .subst e;rw[kL hb] at hl;cases hl
 exact pf hd hk e (λb' c' hr' hn hn'=>hn'.elim hn (λh=>by subst h;exact e (hR.ok.inj _ _ _ _ _ hr' hr))) hb h2 hl (λy hy=>hR.obs l y hy)
def RC.frz:RC->RC
 | .own _ _ els _=>.d (.l els)
 |r=>r
def RV.frz:RV->RV
 | .c r=>.c r.frz
 | .agg rs=>.agg (rs.map RC.frz)
def RC.full:RC->Prop
 | .own _ _ els n=>els.length=n
 |_=>True
def JC:List RC->Prop
 |[]=>True
 |r::rs=>r.full/\JC rs
def RV.full:RV->Prop
 | .c r=>r.full
 | .agg rs=>JC rs
def BP:List RV->Prop
 |[]=>True
 |r::rs=>r.full/\BP rs
section
variable{w:World}{G G2:Nat->Prop}{base:Nat}
theorem Ro(hG:∀b,G b->G2 b){r:RC}{bs:Lac}(h:rcR w G base r u bs)(hf:r.full)(hb:∀p∈bs,G2 p.1):
 rcR w G2 base r.frz u []/\∀p∈bs,base<=p.1/\p.1<w.heap.size/\iV w p.1:=by
 cases r with
 |d x=>obtain⟨rfl,h⟩:=h;exact⟨⟨rfl,cm (λ_ _=>rfl) hG _ _ h⟩,by simp⟩
 |nil=>obtain⟨rfl,h⟩:=h;exact⟨⟨rfl,h⟩,by simp⟩
 |own ty sz els n=>
  obtain⟨b,c,arr,rfl,rfl,hh,h1,h2,h3,h4,h5,h6,h7⟩:=h
  have hf:els.length=n:=hf
  refine⟨⟨rfl,ς ⟨b,0,ξ⟩,c,by rw[hf],h2,.inr ⟨b,0,rfl,hb _ (.head _),cf (λ_ _=>rfl) hG rfl _ _ h5⟩⟩,λp hp=>?_⟩
  obtain rfl:=Y5.1 hp
  exact⟨h7,Ll hh,.mk hh⟩
theorem Mc(hG:∀b,G b->G2 b):∀{rs:List RC} {us:Lae} {bs:Lac},Do w G base rs us bs->JC rs->(∀p∈bs,G2 p.1)->
 Do w G2 base (rs.map RC.frz) us []/\∀p∈bs,base<=p.1/\p.1<w.heap.size/\iV w p.1
 |[],[],bs,h,_,_=>by have h:bs=[]:=h;subst h;exact⟨rfl,by simp⟩
 |r::rs,u::us,bs,⟨b1,b2,e,h1,h2⟩,hf,hb=>by
  subst e
  obtain⟨k1,k2⟩:=Ro hG h1 hf.1 (λp hp=>hb p (by simp[hp]))
  obtain⟨k3,k4⟩:=Mc hG h2 hf.2 (λp hp=>hb p (by simp[hp]))
  exact⟨⟨[],[],rfl,k1,k3⟩,λp hp=>(Ye.1 hp).elim (k2 p) (k4 p)⟩
 |[],_::_,_,h,_,_=>h.elim
 |_::_,[],_,h,_,_=>h.elim
theorem RH(hG:∀b,G b->G2 b){r:RV}{bs:Lac}(h:rvR w G base r u bs)(hf:r.full)(hb:∀p∈bs,G2 p.1):
 rvR w G2 base r.frz u []/\∀p∈bs,base<=p.1/\p.1<w.heap.size/\iV w p.1:=by
 cases r with
 |c r=>exact Ro hG h hf hb
 |agg rs=>
  obtain⟨arr,rfl,h⟩:=h
  obtain⟨k1,k2⟩:=Mc hG h hf hb
  exact⟨⟨arr,rfl,k1⟩,k2⟩
theorem F9(hG:∀b,G b->G2 b):∀{rs:List RV} {us:Lae} {bs:Lac},Av w G base rs us bs->BP rs->(∀p∈bs,G2 p.1)->
 Av w G2 base (rs.map RV.frz) us []/\∀p∈bs,base<=p.1/\p.1<w.heap.size/\iV w p.1
 |[],[],bs,h,_,_=>by have h:bs=[]:=h;subst h;exact⟨rfl,by simp⟩
 |r::rs,u::us,bs,⟨b1,b2,e,h1,h2⟩,hf,hb=>by
  subst e
  obtain⟨k1,k2⟩:=RH hG h1 hf.1 (λp hp=>hb p (by simp[hp]))
  obtain⟨k3,k4⟩:=F9 hG h2 hf.2 (λp hp=>hb p (by simp[hp]))
  exact⟨⟨[],[],rfl,k1,k3⟩,λp hp=>(Ye.1 hp).elim (k2 p) (k4 p)⟩
 |[],_::_,_,h,_,_=>h.elim
 |_::_,[],_,h,_,_=>h.elim
theorem UO(hG:∀b,G b->G2 b){rs:List RV}{bs:Lac}(h:xL w G base rs u bs)(hf:BP rs)(hb:∀p∈bs,G2 p.1):
 xL w G2 base (rs.map RV.frz) u []/\∀p∈bs,base<=p.1/\p.1<w.heap.size/\iV w p.1:=by
 cases rs with
 |nil=>obtain⟨arr,hu,h⟩:=h;obtain⟨k1,k2⟩:=F9 hG h hf hb;exact⟨⟨arr,hu,k1⟩,k2⟩
 |cons r rs=>
  cases rs with
  |nil=>exact RH hG h hf.1 hb
  |cons r2 rs=>obtain⟨arr,hu,h⟩:=h;obtain⟨k1,k2⟩:=F9 hG h hf hb;exact⟨⟨arr,hu,k1⟩,k2⟩
end
theorem Fn.frzs{args:List AV}(h:Fn P f args res)(hf:BP res):Fn P f args (res.map RV.frz):=by
 refine⟨h.enters,λF w vals hF ht hA=>(h.calls F w vals hF ht hA).mono ?_⟩
 rintro e w' ⟨v,G,bs,he,hp,hG,hr,_⟩
 obtain⟨k1,k2⟩:=UO (G2:=λb=>G b\/∃p∈bs,p.1=b) (λb h=>.inl h) hr hf (λp hp=>.inr ⟨p,hp,rfl⟩)
 grind
theorem TL{o:Oper}{needs:List (Operand×T)}(hn:els.length=n)(h:AWK P o needs nob (.v (.c (.w q n))) [(q,.row e sz els g ζ)] [] (ς k)):AWK P o needs nob (.v (.c (.d g (.l els)))) [(q,.row e sz els g η)] [] (ς k):=by
 intro cx E a w ok hne hnob hfr
 obtain⟨hq1,hq2⟩:=hfr q _ (.head _)
 refine Oper.wp_mono ?_ (h cx E a w ok hne hnob (λl x hm=>by simp_all))
 rintro a' w' ⟨v,E',k1,ok',k3,⟨b,c,hr,hv⟩,k5,k6,k7⟩
 obtain⟨b',c',arr,hr',hh,ha,hlc,hmx,hes,hrd,hFm,_⟩:=k5 q _ (.head _)
 rw[hr] at hr';cases hr'
 have hF:=hFm rfl
 obtain⟨hb1,hb2⟩:=ok'.rb q b c hr
 have hb3:cx.w0.heap.size<=b:=by
  rcases hb2 with h|h
  .exact h
  simp_all
 let E2:Env:=⟨E'.r,λj=>E'.F j\/j=b,λj=>E'.G j\/(g=ζ/\j=b),E'.T,E'.Z,E'.n⟩
 have hH:∀g' j,E'.H g' j->E2.H g' j:=λg' j hj=>by cases g'<;>exact .inl hj
 have hold:∀l c',k≠l->E.r l≠ς (b,c'):=λl c' hkl hl=>by
  have h1:=k3.r l _ (by simp_all) hl
  have:=ok'.inj _ _ _ _ _ h1 hr
  simp_all
 refine⟨v,E2,k1,⟨?_,?_,?_,ok'.rb,ok'.inj,ok'.os,ok'.tape,ok'.output,ok'.size,ok'.block,ok'.pin,λj hj=>hj.elim (ok'.ff j) (λe=>.inr (e▸hb3)),λj hj hj'=>hj.elim (λh=>ok'.gc j h hj') (λe=>e▸.mk hh),
  ⟨λl j h=>?_,ok'.sf.tt,λj h=>?_,ok'.sf.zs,ok'.sf.ze⟩⟩,⟨k3.r,λj hj=>.inl (k3.F j hj),λj hj=>.inl (k3.G j hj),?_,k3.heap,k3.own,k3.ownk,k3.T,k3.Z,k3.n⟩,?_,λl x hm=>?_,(λ_ _ h=>by cases h),λl x hl=>?_⟩
 .rintro j (h|rfl)
  .exact ok'.fb j h
  exact hb1
 .rintro j (h|⟨_,rfl⟩)
  .exact .inl (ok'.gf j h)
  omega
 .rintro j (h|⟨_,rfl⟩)
  .exact ok'.gn j h
  omega
 .obtain⟨h1,h2,h3,h4⟩:=ok'.sf.tb l j h
  grind
 .obtain⟨h1,h2,h3,h4⟩:=ok'.sf.zc j h
  grind
 .rintro j (h|rfl)
  .exact k3.F' j h
  simp_all
 .refine⟨ς ⟨b,0,ξ⟩,c,by rw[hv,hn],hlc,.inr ⟨b,0,rfl,?_,cf (λ_ _=>rfl) (hH g) rfl _ _ hrd⟩⟩
  cases g
  .exact .inr rfl
  exact .inr ⟨rfl,rfl⟩
 .simp at hm;obtain⟨rfl,rfl⟩:=hm
  exact⟨b,c,arr,hr,hh,ha,hlc,hmx,hes,cf (λ_ _=>rfl) (hH g) rfl _ _ hrd,(λh=>by cases h),λ_=>⟨.inr rfl,λhg=>.inr ⟨hg,rfl⟩⟩⟩
 grind
section
variable{P:Program}{N:Nat}{d:Tmp}{ty:TypeId}{ps:String}{af:Array Edge}{gd:Option (Nat×Bool)}{x y:Operand}{sl:Lab}{ob:Laa}{nx:Nat}{α:Type}{enc:α->List D}
theorem Dz{by_ o:Nat}{ys zs:List α}{c:C}(ls:List Nat)[dB P t e sz by_](H:cN by_ (ys++zs).length=ζ)(hzd:zs.map enc=zd:=by exact rfl)(henc:∀a,(enc a).length=sz:=by exact λ_=>rfl)(hfl:∀a,qO (enc a)=true:=by exact λ_=>rfl)(hp:nM ob ls=ς nob:=by exact rfl)(hd:nlt d N=true:=by exact rfl)(hx:opT sl x= .v (.c (.w o n)):=by exact rfl)(hy:opT sl y= .v (.c c):=by exact rfl)(hn:ys.length=n:=by first|rfl|simp)(hs:Src nob c zd gy:=by first|exact .d|exact .nil|exact .w rfl (by first|rfl|exact lm _|simp)|exact .wn rfl (by first|rfl|exact lm _|simp))(ho:go nob o=ς (.row e sz (ys.map enc) g ζ):=by exact rfl)(hrv:rsv o=false:=by exact rfl)(hnx:nxt nx=ς nx':=by exact rfl):
 NX P N ⟨ς d,.call ⟨.builtin .append,#[x,y],#[t,t]⟩,ty,ps,af,gd⟩ ⟨sl,ob,nx⟩ ⟨(d,.v (.c (.d ζ (.l ((ys++zs).map enc)))))::sl,(nx,.row e sz ((ys++zs).map enc) ζ η)::ob,nx'⟩
  ⟨⟨d,[(x,.v (.c (.w o n))),(y,.v (.c c))],nob,.v (.c (.d ζ (.l ((ys++zs).map enc)))),[(nx,.row e sz ((ys++zs).map enc) ζ η)]⟩,[],ς o⟩:=by
 obtain⟨h1,h2,h3,h4,h5,h6⟩:=Db (P:=P) (N:=N) (t:=t) (x:=x) (y:=y) (enc:=enc) (d:=d) (ty:=ty) (ps:=ps) (af:=af) (gd:=gd) (sl:=sl) (ob:=ob) (nx:=nx) ls H hzd henc hfl hp hd hx hy hn hs ho hrv hnx
 exact⟨TL (by simp) h1,.inl ⟨rfl,cO hd⟩,h3,h4,mM hnx,rfl⟩
end
theorem OG{ob:Laa}(hk:gt sl k= .v (.agg cs):=by exact rfl)(hj:Ay j (.d ζ (.l [])) cs=ς cs':=by exact rfl):cM N ⟨sl,ob,nx⟩ ⟨(k,.v (.agg cs'))::sl,ob,nx⟩:=by
 intro cx E a w hR
 refine⟨E,hR.ok,hR.dom,hR.obs,λi=>?_,hR.dfr,hR.size,hR.td⟩
 by_cases e:k=i
 .subst e
  rw[cW]
  have h1:=hR.sl k
  rw[hk] at h1
  obtain⟨arr,hu,h1⟩:=h1
  exact⟨arr,hu,yT (x:=.d ζ (.l [])) ⟨ξ,0,rfl,Yj _,.inl rfl⟩ hj h1 h1⟩
 rw[cy _ _ e];exact hR.sl i
theorem eL{o:Nat}{ob:Laa}{vt:TypeId}(ho:go ob o=ς (.var vt cs):=by exact rfl)(hj:Ay j (.d ζ (.l [])) cs=ς cs':=by exact rfl):cM N ⟨sl,ob,nx⟩ ⟨sl,(o,.var vt cs')::ob,nx⟩:=by
 intro cx E a w hR
 refine⟨E,hR.ok,hR.dom,λl x hl=>?_,hR.sl,hR.dfr,hR.size,hR.td⟩
 by_cases e:o=l
 .subst e
  rw[b9] at hl;cases hl
  obtain⟨b,c,arr,h1,h2,h3,h4⟩:=hR.obs o _ ho
  exact⟨b,c,arr,h1,h2,yT (x:=.d ζ (.l [])) ⟨ξ,0,rfl,Yj _,.inl rfl⟩ hj h3 h3,h4⟩
 rw[bG _ _ e] at hl;exact hR.obs l x hl
section
variable{P:Program}{N:Nat}{ops:Array Oper}{p:Nat}{o:Oper}{l:List (Nat×Oper)}{dn seg:List Nat}{ys:List Inx}{base:St}{K:St->Prop}
theorem og{ds:List Nat}{ob:Laa}{st0 st1:St}(hs:vw ops dn seg ys=ζ)(hkl:kls ys=ds)(hA:yv ds sl ob=ς (sl',ob'))(hb:Bo ops (seg++dn) p=ζ)(hw:cM N ⟨sl',ob',nx⟩ st0)(h:BO P N ops o st0 st1)(hw2:cM N st1 st2){dn':List Nat}(hlo:p::(seg++dn)=dn')(h':DZ P N ops l dn' [] [] st2 st2 K):DZ P N ops ((p,o)::l) dn seg ys base ⟨sl,ob,nx⟩ K:=by
 subst hlo
 exact .inr ⟨hs,hb,_,st0,st1,st2,Bt hkl hA,hw,h,hw2,h'⟩
end
end Go.AM
