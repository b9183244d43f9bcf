/- A part. -/
import Derived.Test.YtljhooecmjejiaaGreatE4
set_option linter.unusedVariables false
set_option linter.unusedSimpArgs false
open Nat renaming eq_of_beq_eq_true→RU,beq→d0,lt_of_lt_of_le→SZ,le_refl→RX,le_trans→T9,zero_le→Ta,zero_add→R9,le_of_ble_eq_true→Tu,min_eq_left→Tm,lt_or_ge→SV
open Bool renaming and_eq_true→hV,not_eq_true'→Tc
open List renaming length_map→To,length_append→Tq,all_cons→Su,map_append→TJ,eq_nil_of_length_eq_zero→Tf,getElem?_take→R7,getElem?_append_right→Si,getElem?_append_left→RY,map_cons→TI,map_toArray→Ua,cons_append→Sm,nil_append→T8,map_nil→TN
namespace Go.AM
open Go.RowKit
section
variable {P:Program} {N:Nat} {d:Tmp} {ty:TypeId} {ps:String} {af:Array Edge} {gd:Option (Nat×Bool)} {x y z:Operand}
def Env.mv (E:Env) (o q b c:Nat):Env:={E with r:=fun l=>if l=q then some (b,c) else if l=o then none else E.r l}
theorem Ff {t:TypeId} {e sz by_ o q n:Nat} {els ys:List (List D)} {g gy:Bool} {c:C} {nob:List (Nat×Ob)} [ht:TySl P t e sz by_] (hrv:rsv o=false)
 (ho:go nob o=some (.row e sz els g true)) (hs:Src nob c ys gy) (hn:els.length=n) (hsz:∀e∈ys,e.length=sz) (hb:(n+ys.length)*by_≤140737488355328) (h63:n+ys.length≤9223372036854775807):
 AWK P ⟨some d,.call ⟨.builtin .append,#[x,y],#[t,t]⟩,ty,ps,af,gd⟩ [(x,.v (.c (.w o n))),(y,.v (.c c))] nob (.v (.c (.w q (n+ys.length)))) [(q,.row e sz (els++ys) (g&&gy) true)] [] (some o):=by
 intro cx E a w ok hne hnob hfr
 have hob:∀l x,go nob l=some x→co E w l x:=fun l x h=>hnob l x (uJ h)
 obtain⟨hq1,hq2⟩:=hfr q _ (.head _)
 have h1:cvT E w (.v (.c (.w o n))) (a.eval x):=hne x _ (.head _)
 have h2:cvT E w (.v (.c c)) (a.eval y):=hne y _ (.tail _ (.head _))
 obtain⟨b,cc,hr,hu⟩:=h1
 obtain⟨b',c',arr,hr',hh,ha,hlc,hmx,hes,hrd,hFm,_⟩:=hob o _ ho
 rw[hr] at hr';cases hr'
 have hF:=hFm rfl
 have hoq:o≠q:=fun e=>by rw[e,hq1] at hr;cases hr
 obtain⟨A,k,hv,hyk,hA⟩:=yQ hob hs h2
 obtain⟨ii,zz,i1,i2,i3,i4,i5⟩:=ht.i
 have hbl:=(ok.rb o b cc hr)
 have hown:w.ownsRow 0 e sz (.slice (some ⟨b,0,none⟩) n cc) n (arr.toList.take (n*sz)):=
  ⟨by simp[ha];rw[Tm (by omega)],.inr ⟨b,cc,arr,rfl,Ta _,hh,by omega,hmx,ha,rfl⟩⟩
 have hsrc:∃news:List Value,news.length=ys.length*sz∧(∀u∈news,u.oneCell'=true)∧(∀(j:Nat) (xd:D),ys.flatten[j]?=some xd→∃u,news[j]?=some u∧rdD w (E.H gy) xd u)∧
  ∃v' w',(Builtin.append_ #[t,t] ty #[.slice (some ⟨b,0,none⟩) n cc,.slice A ys.length k]).run P w= .ok v' w'∧w'.ownsRow 0 e sz v' (n+ys.length) (arr.toList.take (n*sz)++news)∧w.grownBy w' (some b)∧v'≠.slice none 0 0∧(v'.ownBlock=some b∨v'.ownBlock=some w.heap.size):=by
  have hgood:∀ad,A=some ad→∀news:List Value,news.length=ys.length*sz→(∀(j:Nat) (u:Value),news[j]?=some u→w.cell? (ad.add j)=some u)→(∀u∈news,u.oneCell'=true)→
   ∃v' w',(Builtin.append_ #[t,t] ty #[.slice (some ⟨b,0,none⟩) n cc,.slice A ys.length k]).run P w= .ok v' w'∧w'.ownsRow 0 e sz v' (n+ys.length) (arr.toList.take (n*sz)++news)∧w.grownBy w' (some b)∧v'≠.slice none 0 0∧(v'.ownBlock=some b∨v'.ownBlock=some w.heap.size):=by
   intro ad hAd news n1 n2 n3
   obtain⟨v',w',r1,r2,r3,r4,r5⟩:=run_append_own_at (P:=P) w 0 t ty e ii zz sz by_ ht.u i1 i4 i2 i3 i5 ht.p _ n _ hown ad ys.length k news n1 n2 n3 (by unfold maxLen;omega) hb (Ta _)
   exact⟨v',w',by rw[hAd];exact r1,r2,r3,(fun h=>by have h9:=(r4.1 h).1;simp at h9),r5⟩
  rcases hA with h0|⟨b2,off,rfl,hrd2⟩
  ·subst h0
   refine⟨[],by simp,by simp,by simp,?_⟩
   cases A with
   |none=>exact⟨_,w,nY w ht.u i1 hown k,by simpa using hown,⟨rfl,rfl,rfl,RX _,fun _ _ _=>rfl⟩,by simp,.inl rfl⟩
   |some ad=>exact hgood ad rfl [] (by simp) (by simp) (by simp)
  ·obtain⟨us,q1,q2,q3,q4⟩:=vU (f6.1 hrd2)
   exact⟨us,by rw[q1,jf hsz],q3,q4,hgood _ rfl us (by rw[q1,jf hsz]) q2 q3⟩
 obtain⟨news,n1,n2,n3,v',w',r1,r2,r3,r4,r5⟩:=hsrc
 obtain⟨_,r2⟩:=r2
 rcases r2 with⟨rfl,_⟩|⟨bn,cap,cur,rfl,_,hhn,hcap,hcapm,hcur,htk⟩
 ·exact absurd rfl r4
 unfold Oper.wp
 simp only[execOp,resolve,invoke,builtin,Sem.run_bind,Sem.run_pure,Result.andThen_ok,Ua,TI,TN,hu,hv,r1,Oper.upon_value]
 have hbn:bn=b∨bn=w.heap.size:=by simpa [Value.ownBlock] using r5
 have hsame:∀k,k<w.heap.size→k≠b→w'.heap[k]?=w.heap[k]?:=fun k hk hne=>r3.block k hk (fun e=>hne (by injection e))
 have hnF:¬E.F bn:=by
  rcases hbn with rfl|rfl
  ·exact hF
  ·exact fun h=>by have:=ok.fb _ h;omega
 have hbig:bn<w'.heap.size:=by
  rcases SV bn w'.heap.size with h|h
  ·exact h
  ·rw[Array.getElem?_eq_none h] at hhn;cases hhn
 have hnew:∀l bl cl,l≠o→E.r l=some (bl,cl)→bl≠bn:=by
  intro l bl cl hne hl e
  subst e
  rcases hbn with h|h
  ·subst h;exact hne (ok.inj l o _ _ _ hl hr)
  ·have:=(ok.rb l bl cl hl).1;omega
 have hHb:∀g k,E.H g k→k≠b∧k<w.heap.size:=fun g k hk=>⟨fun e=>by subst e;cases g;exact hF hk;exact hF (ok.gf _ hk),ok.hb hk⟩
 have kH:∀(g:Bool) (k:Nat),E.H g k→w'.heap[k]?=w.heap[k]?:=fun g k hk=>hsame k (hHb g k hk).2 (hHb g k hk).1
 have kI:∀(g:Bool) (k:Nat),E.H g k→(E.mv o q bn cap).H g k:=fun _ _ h=>h
 have hbnew:cx.w0.heap.size≤b:=by
  rcases hbl.2 with h|h
  ·exact h
  ·rw[hrv] at h;cases h.2
 have hmv:∀l bl cl,(E.mv o q bn cap).r l=some (bl,cl)→(l=q∧bl=bn∧cl=cap)∨(l≠q∧l≠o∧E.r l=some (bl,cl)):=by
  intro l bl cl hl
  simp only[Env.mv] at hl
  split at hl
  ·cases hl;exact .inl ⟨by assumption,rfl,rfl⟩
  ·split at hl
   ·cases hl
   ·exact .inr ⟨by assumption,by assumption,hl⟩
 refine⟨_,E.mv o q bn cap,rfl,⟨fun k hk=>SZ (ok.fb k hk) r3.size,ok.gf,ok.gn,fun l bl cl hl=>?_,fun l l' bl cl cl' hl hl'=>?_,by rw[r3.os];exact ok.os,by rw[r3.tape];exact ok.tape,by rw[r3.output];exact ok.output,T9 ok.size r3.size,fun k hk hW=>?_,fun l xx hv hl=>?_,ok.ff,fun k hk hk'=>(ok.gc k hk hk').of_eq (hsame k (hHb false k hk).2 (hHb false k hk).1),ok.sf.turn hr rfl rfl (fun _ h=>.inl h) (fun l bl cl hl=>?_) r3.size hsame⟩,
  ⟨fun l xx hl hlr=>?_,fun _ h=>h,fun _ h=>h,fun _ h=>.inl h,fun k hk _ hkl=>hsame k hk (fun e=>hkl o cc rfl (e▸hr)),(fun _ _ _ _ h=>by cases h),fun l bl cl hl hlr=>?_,rfl,rfl,rfl⟩,⟨bn,cap,by simp[Env.mv],rfl⟩,fun l ob hm=>?_,(fun _ _ h=>by cases h),fun l xx hl=>?_⟩
 ·rcases hmv l bl cl hl with⟨_,rfl,rfl⟩|⟨_,_,hl⟩
  ·refine⟨hbig,.inl ?_⟩
   rcases hbn with h|h
   ·rw[h];exact hbnew
   ·rw[h];exact ok.size
  ·have:=ok.rb l bl cl hl;exact⟨SZ this.1 r3.size,this.2⟩
 ·rcases hmv l bl cl hl with⟨h1,h2,h3⟩|⟨h1,h2,h3⟩<;>rcases hmv l' bl cl' hl' with⟨k1,k2,k3⟩|⟨k1,k2,k3⟩
  ·omega
  ·exact absurd h2 (hnew l' _ _ k2 k3)
  ·exact absurd k2 (hnew l _ _ h2 h3)
  ·exact ok.inj l l' bl cl cl' h3 k3
 ·rw[hsame k (by have:=ok.size;omega) (by omega)];exact ok.block k hk hW
 ·obtain⟨bl,cl⟩:=xx
  rcases hmv l bl cl hl with⟨rfl,_⟩|⟨_,_,hl⟩
  ·rw[mX hq2] at hv;cases hv
  ·exact ok.pin l _ hv hl
 ·rcases hmv l bl cl hl with⟨_,rfl,_⟩|⟨_,_,hl⟩
  ·rcases hbn with h|h
   ·left;exact⟨o,_,h▸hr⟩
   ·right;omega
  ·exact .inl ⟨l,cl,hl⟩
 ·simp only[Env.mv]
  rw[if_neg (fun e=>by rw[e,hq1] at hlr;cases hlr),if_neg (fun e=>hl (by rw[e]))]
  exact hlr
 ·cases hl
  rw[hr] at hlr;cases hlr;exact hF
 ·simp at hm;obtain⟨rfl,rfl⟩:=hm
  have hall:∀e'∈els++ys,e'.length=sz:=fun e' he'=>by
   rcases List.mem_append.1 he' with h|h
   ·exact hes e' h
   ·exact hsz e' h
  refine⟨bn,cap,cur,by simp[Env.mv],hhn,hcur,by simp;omega,hcapm,hall,?_,fun _=>hnF,fun h=>by cases h⟩
  rw[f6]
  refine mC fun j xd hj=>?_
  rw[R9,ey hhn]
  rw[List.flatten_append] at hj
  have hfl:els.flatten.length=n*sz:=by rw[jf hes,hn]
  have hxs:(arr.toList.take (n*sz)).length=n*sz:=by simp[ha];rw[Tm (by omega)]
  have hcurj:∀u,(arr.toList.take (n*sz)++news)[j]?=some u→cur[j]?=some u:=by
   intro u hu
   rw[←htk,R7] at hu
   split at hu
   ·simpa using hu
   ·cases hu
  by_cases hjn:j<n*sz
  ·rw[RY (by omega)] at hj
   obtain⟨u,u1,u2⟩:=lu (f6.1 hrd) hj
   rw[R9,ey hh] at u1
   refine⟨u,hcurj u ?_,ci (kH _) (kI _) _ _ (oN ok u2 (by simp;intro a _;exact a))⟩
   rw[RY (by omega),R7,if_pos hjn]
   simpa using u1
  ·rw[Si (by omega),hfl] at hj
   obtain⟨u,u1,u2⟩:=n3 _ _ hj
   refine⟨u,hcurj u ?_,ci (kH _) (kI _) _ _ (oN ok u2 (by simp))⟩
   rw[Si (by omega),hxs]
   exact u1
 ·obtain⟨bl,cl⟩:=xx
  rcases hmv l bl cl hl with⟨rfl,_⟩|⟨_,_,hl⟩
  ·exact .inr ⟨_,.head _⟩
  ·exact .inl hl
theorem rh {t:TypeId} {e sz by_ q:Nat} {ys:List (List D)} {gy:Bool} {c:C} {nob:List (Nat×Ob)} [ht:TySl P t e sz by_]
 (hs:Src nob c ys gy) (hne0:ys≠[]) (hsz:∀e∈ys,e.length=sz) (hb:ys.length*by_≤140737488355328) (h63:ys.length≤9223372036854775807)
 {cx:Cx} {E:Env} {a:Act} {w:World} (ok:cK cx E w) (hob:∀l x,go nob l=some x→co E w l x) (hq1:E.r q=none) (hq2:rsv q=false) (hu:a.eval x= .slice none 0 0) (h2:cvT E w (.v (.c c)) (a.eval y)):
 Oper.wp P ⟨some d,.call ⟨.builtin .append,#[x,y],#[t,t]⟩,ty,ps,af,gd⟩ a w (fun a' w'=>∃v E',a'=a.put (some d) v∧cK cx E' w'∧Ext E w E' w'∧cvT E' w' (.v (.c (.w q ys.length))) v∧(∀l ob,(l,ob)∈[(q,Ob.row e sz ys gy true)]→co E' w' l ob)∧
  (∀l x,E'.r l=some x→E.r l=some x∨∃ob,(l,ob)∈[(q,Ob.row e sz ys gy true)])) (fun _ _ _=>False):=by
 obtain⟨A,k,hv,hyk,hA⟩:=yQ hob hs h2
 obtain⟨ii,zz,i1,i2,i3,i4,i5⟩:=ht.i
 have hown:=World.ownsRow_nil w 0 e sz
 rcases hA with h0|⟨b2,off,rfl,hrd2⟩
 ·exact absurd h0 hne0
 obtain⟨news,q1,q2,q3,n3⟩:=vU (f6.1 hrd2)
 have n1:news.length=ys.length*sz:=by rw[q1,jf hsz]
 obtain⟨v',w',r1,r2,r3,r4,r5⟩:=run_append_own_at (P:=P) w 0 t ty e ii zz sz by_ ht.u i1 i4 i2 i3 i5 ht.p _ 0 _ hown ⟨b2,off,none⟩ ys.length k news n1 q2 q3 (by unfold maxLen;omega) (by simpa using hb) (Ta _)
 have hnn:v'≠.slice none 0 0:=fun h=>hne0 (Tf (r4.1 h).2)
 obtain⟨_,r2⟩:=r2
 rcases r2 with⟨rfl,_⟩|⟨bn,cap,cur,rfl,_,hhn,hcap,hcapm,hcur,htk⟩
 ·exact absurd rfl hnn
 simp only[R9,T8] at r1 hcap htk hnn r4 r5
 unfold Oper.wp
 simp only[execOp,resolve,invoke,builtin,Sem.run_bind,Sem.run_pure,Result.andThen_ok,Ua,TI,TN,hu,hv,r1,Oper.upon_value]
 have hbn:bn=w.heap.size:=by simpa [Value.ownBlock] using r5
 have hsame:∀k,k<w.heap.size→w'.heap[k]?=w.heap[k]?:=fun k hk=>r3.block k hk (fun e=>by simp[Value.ownBlock] at e)
 have hnF:¬E.F bn:=fun h=>by have:=ok.fb _ h;omega
 have hbig:bn<w'.heap.size:=by
  rcases SV bn w'.heap.size with h|h
  ·exact h
  ·rw[Array.getElem?_eq_none h] at hhn;cases hhn
 have kH:∀(g:Bool) (k:Nat),E.H g k→w'.heap[k]?=w.heap[k]?:=fun g k hk=>hsame k (ok.hb hk)
 have kI:∀(g:Bool) (k:Nat),E.H g k→(E.new q bn cap).H g k:=fun _ _ h=>h
 have hmv:∀l bl cl,(E.new q bn cap).r l=some (bl,cl)→(l=q∧bl=bn∧cl=cap)∨(l≠q∧E.r l=some (bl,cl)):=by
  intro l bl cl hl
  simp only[Env.new] at hl
  split at hl
  ·cases hl;exact .inl ⟨by assumption,rfl,rfl⟩
  ·exact .inr ⟨by assumption,hl⟩
 refine⟨_,E.new q bn cap,rfl,⟨fun k hk=>SZ (ok.fb k hk) r3.size,ok.gf,ok.gn,fun l bl cl hl=>?_,fun l l' bl cl cl' hl hl'=>?_,by rw[r3.os];exact ok.os,by rw[r3.tape];exact ok.tape,by rw[r3.output];exact ok.output,T9 ok.size r3.size,fun k hk hW=>?_,fun l xx hv hl=>?_,ok.ff,fun k hk hk'=>(ok.gc k hk hk').of_eq (hsame k (ok.fb k hk)),ok.sf.grow rfl rfl (fun _ h=>.inl h) (fun l bl cl hl=>?_) r3.size hsame⟩,
  ⟨fun l xx hlr=>?_,fun _ h=>h,fun _ h=>h,fun _ h=>.inl h,hsame,rfl,rfl,rfl⟩,⟨bn,cap,by simp[Env.new],rfl⟩,fun l ob hm=>?_,fun l xx hl=>?_⟩
 ·rcases hmv l bl cl hl with⟨_,rfl,rfl⟩|⟨_,hl⟩
  ·exact⟨hbig,.inl (by rw[hbn];exact ok.size)⟩
  ·have:=ok.rb l bl cl hl;exact⟨SZ this.1 r3.size,this.2⟩
 ·rcases hmv l bl cl hl with⟨h1,h2,h3⟩|⟨h1,h3⟩<;>rcases hmv l' bl cl' hl' with⟨k1,k2,k3⟩|⟨k1,k3⟩
  ·omega
  ·have:=(ok.rb l' bl cl' k3).1;omega
  ·have:=(ok.rb l bl cl h3).1;omega
  ·exact ok.inj l l' bl cl cl' h3 k3
 ·rw[hsame k (by have:=ok.size;omega)];exact ok.block k hk hW
 ·obtain⟨bl,cl⟩:=xx
  rcases hmv l bl cl hl with⟨rfl,_⟩|⟨_,hl⟩
  ·rw[mX hq2] at hv;cases hv
  ·exact ok.pin l _ hv hl
 ·rcases hmv l bl cl hl with⟨_,rfl,_⟩|⟨_,hl⟩
  ·right;omega
  ·exact .inl ⟨l,cl,hl⟩
 ·simp only[Env.new]
  rw[if_neg (fun e=>by rw[e,hq1] at hlr;cases hlr)]
  exact hlr
 ·simp at hm;obtain⟨rfl,rfl⟩:=hm
  refine⟨bn,cap,cur,by simp[Env.new],hhn,hcur,by omega,hcapm,hsz,?_,fun _=>hnF,fun h=>by cases h⟩
  rw[f6]
  refine mC fun j xd hj=>?_
  rw[R9,ey hhn]
  obtain⟨u,u1,u2⟩:=n3 _ _ hj
  refine⟨u,?_,ci (kH _) (kI _) _ _ u2⟩
  have:=u1
  rw[←htk,R7] at this
  split at this
  ·simpa using this
  ·cases this
 ·obtain⟨bl,cl⟩:=xx
  rcases hmv l bl cl hl with⟨rfl,_⟩|⟨_,hl⟩
  ·exact .inr ⟨_,.head _⟩
  ·exact .inl hl
theorem Df {t:TypeId} {e sz by_ q:Nat} {ys:List (List D)} {gy:Bool} {c:C} {nob:List (Nat×Ob)} [ht:TySl P t e sz by_]
 (hs:Src nob c ys gy) (hne0:ys≠[]) (hsz:∀e∈ys,e.length=sz) (hb:ys.length*by_≤140737488355328) (h63:ys.length≤9223372036854775807):
 AWN P ⟨some d,.call ⟨.builtin .append,#[x,y],#[t,t]⟩,ty,ps,af,gd⟩ [(x,.v (.c .nil)),(y,.v (.c c))] nob (.v (.c (.w q ys.length))) [(q,.row e sz ys gy true)]:=by
 intro cx E a w ok hne hnob hfr
 obtain⟨hq1,hq2⟩:=hfr q _ (.head _)
 exact rh hs hne0 hsz hb h63 ok (fun l x h=>hnob l x (uJ h)) hq1 hq2 (hne x _ (.head _)) (hne y _ (.tail _ (.head _)))
end
section
variable {P:Program} {N:Nat} {d:Tmp} {ty:TypeId} {ps:String} {af:Array Edge} {gd:Option (Nat×Bool)} {x y:Operand} {sl:List (Nat×T)} {ob:List (Nat×Ob)} {nx:Nat} {α:Type} {enc:α→List D}
theorem apx {t:TypeId} {e sz by_ o n nx':Nat} {ys zs:List α} {zd:List (List D)} {g gy gg:Bool} {c:C} {nob:List (Nat×Ob)} (ls:List Nat) [TySl P t e sz by_] (H:cS by_ (ys++zs).length=true) (hzd:zs.map enc=zd:=by exact rfl) (henc:∀a,(enc a).length=sz:=by exact fun _=>rfl)
 (hp:rv ob ls=some nob:=by exact rfl) (hd:nlt d N=true:=by exact rfl) (hx:opT sl x= .v (.c (.w o n)):=by exact rfl) (hy:opT sl y= .v (.c c):=by exact rfl) (hn:ys.length=n:=by first|rfl|simp) (hs:Src nob c zd gy:=by first|exact .d|exact .nil|exact .w rfl (by first|rfl|exact lm _|simp)|exact .wn rfl (by first|rfl|exact lm _|simp)) (ho:go nob o=some (.row e sz (ys.map enc) g true):=by exact rfl) (hg:(g&&gy)=gg:=by exact rfl) (hrv:rsv o=false:=by exact rfl) (hnx:nxt nx=some nx':=by exact rfl):
 NX P N ⟨some d,.call ⟨.builtin .append,#[x,y],#[t,t]⟩,ty,ps,af,gd⟩ ⟨sl,ob,nx⟩ ⟨(d,.v (.c (.w nx (ys++zs).length)))::sl,(nx,.row e sz ((ys++zs).map enc) gg true)::ob,nx'⟩
  ⟨⟨d,[(x,.v (.c (.w o n))),(y,.v (.c c))],nob,.v (.c (.w nx (ys++zs).length)),[(nx,.row e sz ((ys++zs).map enc) gg true)]⟩,[],some o⟩:=by
 subst hzd;subst hg
 simp only[cS,decide_eq_true_eq,Tq] at H
 have:=Ff (P:=P) (d:=d) (ty:=ty) (ps:=ps) (af:=af) (gd:=gd) (x:=x) (y:=y) (t:=t) (e:=e) (sz:=sz) (by_:=by_) (q:=nx) (n:=n) hrv ho hs (by simpa using hn) (G3 henc zs) (by subst hn;simp only[To];exact H.1) (by subst hn;simp only[To];omega)
 rw[←TJ,To,←hn,←Tq] at this
 exact⟨by subst hn;exact this,.inl ⟨rfl,cF hd⟩,⟨hx,hy,trivial⟩,p3 hp,lq hnx,rfl⟩
theorem A4 {t:TypeId} {e sz by_ o n nx':Nat} {ys zs:List α} {zd:List (List D)} {g gy:Bool} {c:C} {nob:List (Nat×Ob)} (ls:List Nat) [TySl P t e sz by_] (H:cS by_ (ys++zs).length=true) (hzd:zs.map enc=zd:=by exact rfl) (henc:∀a,(enc a).length=sz:=by exact fun _=>rfl) (hfl:∀a,ro (enc a)=true:=by exact fun _=>rfl)
 (hp:rv ob ls=some nob:=by exact rfl) (hd:nlt d N=true:=by exact rfl) (hx:opT sl x= .v (.c (.w o n)):=by exact rfl) (hy:opT sl y= .v (.c c):=by exact rfl) (hn:ys.length=n:=by first|rfl|simp) (hs:Src nob c zd gy:=by first|exact .d|exact .nil|exact .w rfl (by first|rfl|exact lm _|simp)|exact .wn rfl (by first|rfl|exact lm _|simp)) (ho:go nob o=some (.row e sz (ys.map enc) g true):=by exact rfl) (hrv:rsv o=false:=by exact rfl) (hnx:nxt nx=some nx':=by exact rfl):
 NX P N ⟨some d,.call ⟨.builtin .append,#[x,y],#[t,t]⟩,ty,ps,af,gd⟩ ⟨sl,ob,nx⟩ ⟨(d,.v (.c (.w nx (ys++zs).length)))::sl,(nx,.row e sz ((ys++zs).map enc) true true)::ob,nx'⟩
  ⟨⟨d,[(x,.v (.c (.w o n))),(y,.v (.c c))],nob,.v (.c (.w nx (ys++zs).length)),[(nx,.row e sz ((ys++zs).map enc) true true)]⟩,[],some o⟩:=by
 obtain⟨h1,h2,h3,h4,h5,h6⟩:=apx (P:=P) (N:=N) (t:=t) (x:=x) (y:=y) (enc:=enc) (d:=d) (ty:=ty) (ps:=ps) (af:=af) (gd:=gd) (sl:=sl) (ob:=ob) (nx:=nx) ls H hzd henc hp hd hx hy hn hs ho rfl hrv hnx
 refine⟨?_,h2,h3,h4,lq hnx,rfl⟩
 intro cx E a w ok hne hnob hfr
 refine Oper.wp_mono ?_ (h1 cx E a w ok hne hnob (fun l x hm=>by simp at hm;obtain⟨rfl,_⟩:=hm;exact hfr _ _ (.head _)))
 rintro a' w' ⟨v,E',k1,k2,k3,k4,k5,k6,k7⟩
 refine⟨v,E',k1,k2,k3,k4,fun l x hm=>?_,k6,fun l x hl=>(k7 l x hl).imp id (fun⟨x',hm⟩=>by simp at hm;obtain⟨rfl,_⟩:=hm;exact⟨_,.head _⟩)⟩
 simp at hm;obtain⟨rfl,rfl⟩:=hm
 obtain⟨b,c,arr,j1,j2,j3,j4,j5,j6,j7,j8,j9⟩:=k5 _ _ (.head _)
 refine⟨b,c,arr,j1,j2,j3,by simpa using j4,j5,by simpa using j6,?_,j8,fun h=>by cases h⟩
 have:rdLL w' (E'.H true) ((ys++zs).map enc) b 0:=tx (fun e he=>by obtain⟨a,_,rfl⟩:=List.mem_map.1 he;exact hfl a) j7
 simpa using this
end
theorem dr {N nx o:Nat} {sl:List (Nat×T)} {ob:List (Nat×Ob)} {ty:TypeId} {cs cs':List C} {e:List (Nat×Nat)} (ho:go ob o=some (.var ty cs):=by exact rfl) (hv:JS ob cs=some (cs',e):=by exact rfl) (he:Eqs e:=by repeat (first|exact trivial|refine⟨by first|rfl|exact lm _|simp,?_⟩)):cZ N ⟨sl,ob,nx⟩ ⟨sl,(o,.var ty cs')::ob,nx⟩:=by
 intro cx E a w hR
 refine⟨E,hR.ok,hR.dom,fun p x h=>?_,hR.sl,hR.dfr,hR.size,hR.td⟩
 by_cases hp:o=p
 ·subst hp
  rw[b8] at h;cases h
  obtain⟨b,c,arr,h1,h2,h3,h4⟩:=hR.obs o _ ho
  exact⟨b,c,arr,h1,h2,CU hR.obs hv he h3,h4⟩
 ·rw[bu _ _ hp] at h;exact hR.obs p x h
theorem wN {N nx nx':Nat} {sl:List (Nat×T)} {ob:List (Nat×Ob)} (h:Nat.ble nx nx'=true):cZ N ⟨sl,ob,nx⟩ ⟨sl,ob,nx'⟩:=by
 intro cx E a w hR
 have:=Tu h
 exact⟨E,hR.ok,fun o x ho=>SZ (hR.dom o x ho) this,hR.obs,hR.sl,hR.dfr,hR.size,fun l b hb=>SZ (hR.td l b hb) this⟩
end Go.AM
namespace Go.AM
open Go.RowKit
theorem cK.setN {cx:Cx} {E:Env} {w:World} (ok:cK cx E w) (n:Nat→Prop):cK cx {E with n:=n} w:=
 ⟨ok.fb,ok.gf,ok.gn,ok.rb,ok.inj,ok.os,ok.tape,ok.output,ok.size,ok.block,ok.pin,ok.ff,ok.gc,⟨ok.sf.tb,ok.sf.tt,ok.sf.zc,ok.sf.zs,ok.sf.ze⟩⟩
def lV (f:C→Option C):List C→Option (List C)
 |[]=>some []
 |c::cs=>match f c,lV f cs with
  |some x,some xs=>some (x::xs)
  |_,_=>none
def Dc (f:C→Option C):V→Option V
 | .c c=>match f c with
  |some x=>some (.c x)
  |none=>none
 | .agg cs=>match lV f cs with
  |some x=>some (.agg x)
  |none=>none
def xO (f:C→Option C):List V→Option (List V)
 |[]=>some []
 |c::cs=>match Dc f c,xO f cs with
  |some x,some xs=>some (x::xs)
  |_,_=>none
def vI (f:C→Option C):T→Option T
 | .v v=>match Dc f v with
  |some x=>some (.v x)
  |none=>none
 | .tup vs=>match xO f vs with
  |some x=>some (.tup x)
  |none=>none
 | .any=>some .any
def xb (f:C→Option C):List (Nat×T)→Option (List (Nat×T))
 |[]=>some []
 |(k,t)::r=>match vI f t,xb f r with
  |some x,some xs=>some ((k,x)::xs)
  |_,_=>none
def uL (f:C→Option C) (g:Nat→Ob→Option Ob):List (Nat×Ob)→Option (List (Nat×Ob))
 |[]=>some []
 |(k,.var t cs)::r=>match lV f cs,uL f g r with
  |some x,some xs=>some ((k,.var t x)::xs)
  |_,_=>none
 |(k,.row t sz els gg m)::r=>match g k (.row t sz els gg m),uL f g r with
  |some x,some xs=>some ((k,x)::xs)
  |_,_=>none
 |(k,.rown t sz els gg)::r=>match g k (.rown t sz els gg),uL f g r with
  |some x,some xs=>some ((k,x)::xs)
  |_,_=>none
 |(k,.abs j y)::r=>match g k (.abs j y),uL f g r with
  |some x,some xs=>some ((k,x)::xs)
  |_,_=>none
section
variable {f:C→Option C} {E E':Env} {w w':World} (hf:∀c c' u,f c=some c'→cvC E w c u→cvC E' w' c' u)
include hf
theorem pY:∀{cs cs':List C} {us:List Value},lV f cs=some cs'→CV E w cs us→CV E' w' cs' us
 |[],cs',us,h,hc=>by
  simp[lV] at h;subst h
  cases us with
  |nil=>trivial
  |cons _ _=>exact hc.elim
 |c::cs,cs',us,h,hc=>by
  cases us with
  |nil=>exact hc.elim
  |cons u us=>
   simp only[lV] at h
   split at h
   ·rename_i h1 h2;simp at h;subst h;exact⟨hf _ _ _ h1 hc.1,pY h2 hc.2⟩
   ·cases h
theorem IO {v v':V} {u:Value} (h:Dc f v=some v') (hv:cvV E w v u):cvV E' w' v' u:=by
 cases v with
 |c c=>
  simp only[Dc] at h
  split at h
  ·rename_i h1;simp at h;subst h;exact hf _ _ _ h1 hv
  ·cases h
 |agg cs=>
  simp only[Dc] at h
  split at h
  ·rename_i h1;simp at h;subst h;obtain⟨arr,hu,hc⟩:=hv;exact⟨arr,hu,pY hf h1 hc⟩
  ·cases h
theorem Fm:∀{cs cs':List V} {us:List Value},xO f cs=some cs'→VV E w cs us→VV E' w' cs' us
 |[],cs',us,h,hc=>by
  simp[xO] at h;subst h
  cases us with
  |nil=>trivial
  |cons _ _=>exact hc.elim
 |c::cs,cs',us,h,hc=>by
  cases us with
  |nil=>exact hc.elim
  |cons u us=>
   simp only[xO] at h
   split at h
   ·rename_i h1 h2;simp at h;subst h;exact⟨IO hf h1 hc.1,Fm h2 hc.2⟩
   ·cases h
theorem vJ {v v':T} {u:Value} (h:vI f v=some v') (hv:cvT E w v u):cvT E' w' v' u:=by
 cases v with
 |v v=>
  simp only[vI] at h
  split at h
  ·rename_i h1;simp at h;subst h;exact IO hf h1 hv
  ·cases h
 |tup vs=>
  simp only[vI] at h
  split at h
  ·rename_i h1;simp at h;subst h;obtain⟨arr,hu,hc⟩:=hv;exact⟨arr,hu,Fm hf h1 hc⟩
  ·cases h
 |any=>simp[vI] at h;subst h;trivial
theorem vH {k:Nat} {u:Value}:∀{sl sl':List (Nat×T)},xb f sl=some sl'→cvT E w (gt sl k) u→cvT E' w' (gt sl' k) u
 |[],sl',h,_=>by simp[xb] at h;subst h;trivial
 |(j,t)::r,sl',h,hc=>by
  simp only[xb] at h
  split at h
  ·rename_i h1 h2
   simp at h;subst h
   by_cases hj:j=k
   ·subst hj;rw[dJ] at hc ⊢;exact vJ hf h1 hc
   ·rw[cN _ _ hj] at hc ⊢;exact vH h2 hc
  ·cases h
end
theorem qD {f:C→Option C} {g:Nat→Ob→Option Ob} {l:Nat} {y:Ob}:∀{ob ob':List (Nat×Ob)},uL f g ob=some ob'→go ob' l=some y→
 (∃t cs cs',go ob l=some (.var t cs)∧lV f cs=some cs'∧y= .var t cs')∨(∃x,go ob l=some x∧(∀t cs,x≠.var t cs)∧g l x=some y)
 |[],ob',h,hy=>by simp[uL] at h;subst h;cases hy
 |(k,x)::r,ob',h,hy=>by
  cases x with
  |var t cs=>
   simp only[uL] at h
   split at h
   ·rename_i h1 h2
    simp at h;subst h
    by_cases hk:k=l
    ·subst hk;rw[b8] at hy ⊢;cases hy;exact .inl ⟨t,cs,_,rfl,h1,rfl⟩
    ·rw[bu _ _ hk] at hy ⊢;exact qD h2 hy
   ·cases h
  |row t sz els gg m=>
   simp only[uL] at h
   split at h
   ·rename_i h1 h2
    simp at h;subst h
    by_cases hk:k=l
    ·subst hk;rw[b8] at hy ⊢;cases hy;exact .inr ⟨_,rfl,by simp,h1⟩
    ·rw[bu _ _ hk] at hy ⊢;exact qD h2 hy
   ·cases h
  |rown t sz els gg=>
   simp only[uL] at h
   split at h
   ·rename_i h1 h2
    simp at h;subst h
    by_cases hk:k=l
    ·subst hk;rw[b8] at hy ⊢;cases hy;exact .inr ⟨_,rfl,by simp,h1⟩
    ·rw[bu _ _ hk] at hy ⊢;exact qD h2 hy
   ·cases h
  |abs j z=>
   simp only[uL] at h
   split at h
   ·rename_i h1 h2
    simp at h;subst h
    by_cases hk:k=l
    ·subst hk;rw[b8] at hy ⊢;cases hy;exact .inr ⟨_,rfl,by simp,h1⟩
    ·rw[bu _ _ hk] at hy ⊢;exact qD h2 hy
   ·cases h
def KT (o:Nat):C→Option C
 | .w l n=>match d0 l o with
  |true=>some (.wn l n)
  |false=>some (.w l n)
 | .wn l n=>match d0 l o with
  |true=>some .any
  |false=>some (.wn l n)
 |c=>some c
def NH (o:Nat) (k:Nat):Ob→Option Ob
 | .row t sz els g true=>match d0 k o with
  |true=>some (.rown t sz els g)
  |false=>some (.row t sz els g true)
 |x=>some x
theorem du {N nx rt sz:Nat} {els:List (List D)} {g:Bool} {sl sl':List (Nat×T)} {ob ob':List (Nat×Ob)} (o:Nat) (ho:go ob o=some (.row rt sz els g true):=by exact rfl) (hs:xb (KT o) sl=some sl':=by exact rfl) (hb:uL (KT o) (NH o) ob=some ob':=by exact rfl):cZ N ⟨sl,ob,nx⟩ ⟨sl',ob',nx⟩:=by
 intro cx E a w hR
 have hf:∀c c' u,KT o c=some c'→cvC E w c u→cvC {E with n:=fun l=>l≠o∧E.n l} w c' u:=by
  intro c c' u h hc
  cases c with
  |w l n=>
   simp only[KT] at h
   split at h
   ·rename_i hb
    have:=RU hb
    subst this
    cases h
    exact .inr ⟨fun h=>h.1 rfl,hc⟩
   ·cases h;exact hc
  |wn l n=>
   simp only[KT] at h
   split at h
   ·cases h;trivial
   ·rename_i hb
    have:=gp hb
    cases h
    rcases hc with⟨h1,h2⟩|⟨h1,h2⟩
    ·exact .inl ⟨⟨this,h1⟩,h2⟩
    ·exact .inr ⟨fun h=>h1 h.2,h2⟩
  |_=>simp only[KT] at h;cases h;exact hc
 refine⟨{E with n:=fun l=>l≠o∧E.n l},hR.ok.setN _,hR.dom,fun l y hl=>?_,fun k=>vH hf hs (hR.sl k),hR.dfr,hR.size,hR.td⟩
 rcases qD hb hl with⟨t,cs,cs',h1,h2,rfl⟩|⟨x,h1,h2,h3⟩
 ·obtain⟨b,c,arr,k1,k2,k3,k4⟩:=hR.obs l _ h1
  exact⟨b,c,arr,k1,k2,pY hf h2 k3,k4⟩
 ·have hx:=hR.obs l x h1
  cases x with
  |var t cs=>exact absurd rfl (h2 t cs)
  |row t sz els g m=>
   cases m with
   |true=>
    simp only[NH] at h3
    split at h3
    ·rename_i hb
     have:=RU hb
     subst this
     cases h3
     obtain⟨b,c,arr,k1,k2,k3,k4,k5,k6,k7,k8,_⟩:=hx
     exact .inr ⟨fun h=>h.1 rfl,b,c,arr,k1,k2,k3,k4,k5,k6,k7,k8 rfl⟩
    ·cases h3;exact hx
   |false=>simp only[NH] at h3;cases h3;exact hx
  |rown t sz els g=>
   simp only[NH] at h3
   cases h3
   have hlo:l≠o:=fun e=>by subst e;rw[ho] at h1;cases h1
   rcases hx with⟨k1,k2⟩|⟨k1,k2⟩
   ·exact .inl ⟨⟨hlo,k1⟩,k2⟩
   ·exact .inr ⟨fun h=>k1 h.2,k2⟩
  |abs j y=>
   simp only[NH] at h3
   cases h3
   have hlo:l≠o:=fun e=>by subst e;rw[ho] at h1;cases h1
   rcases hx with⟨k1,k2⟩|⟨k1,k2⟩
   ·exact .inl ⟨⟨hlo,k1⟩,k2⟩
   ·exact .inr ⟨fun h=>k1 h.2,k2⟩
def NL (o:Nat):C→Option C
 | .wn l n=>match d0 l o with
  |true=>some (.w l n)
  |false=>some (.wn l n)
 |c=>some c
def PD (o:Nat) (k:Nat):Ob→Option Ob
 | .rown t sz els g=>match d0 k o with
  |true=>some (.row t sz els g true)
  |false=>some (.rown t sz els g)
 |x=>some x
theorem iK {N nx ty sz:Nat} {els:List (List D)} {g:Bool} {sl sl':List (Nat×T)} {ob ob':List (Nat×Ob)} (o:Nat) (ho:go ob o=some (.rown ty sz els g):=by exact rfl) (hne:els≠[]) (hs:xb (NL o) sl=some sl':=by exact rfl) (hb:uL (NL o) (PD o) ob=some ob':=by exact rfl):cZ N ⟨sl,ob,nx⟩ ⟨sl',ob',nx⟩:=by
 intro cx E a w hR
 have hn:¬E.n o:=by
  rcases hR.obs o _ ho with⟨_,h⟩|⟨h,_⟩
  ·exact absurd h hne
  ·exact h
 have hf:∀c c' u,NL o c=some c'→cvC E w c u→cvC E w c' u:=by
  intro c c' u h hc
  cases c with
  |wn l n=>
   simp only[NL] at h
   split at h
   ·rename_i hb
    have:=RU hb
    subst this
    cases h
    rcases hc with⟨h1,_⟩|⟨_,h2⟩
    ·exact absurd h1 hn
    ·exact h2
   ·cases h;exact hc
  |_=>simp only[NL] at h;cases h;exact hc
 refine⟨E,hR.ok,hR.dom,fun l y hl=>?_,fun k=>vH hf hs (hR.sl k),hR.dfr,hR.size,hR.td⟩
 rcases qD hb hl with⟨t,cs,cs',h1,h2,rfl⟩|⟨x,h1,h2,h3⟩
 ·obtain⟨b,c,arr,k1,k2,k3,k4⟩:=hR.obs l _ h1
  exact⟨b,c,arr,k1,k2,pY hf h2 k3,k4⟩
 ·have hx:=hR.obs l x h1
  cases x with
  |var t cs=>exact absurd rfl (h2 t cs)
  |row t sz els g m=>simp only[PD] at h3;cases h3;exact hx
  |rown t sz els g=>
   simp only[PD] at h3
   split at h3
   ·rename_i hb
    have:=RU hb
    subst this
    cases h3
    rcases hx with⟨k1,k2⟩|⟨_,b,c,arr,k1,k2,k3,k4,k5,k6,k7,k8⟩
    ·exact absurd k1 hn
    ·exact⟨b,c,arr,k1,k2,k3,k4,k5,k6,k7,fun _=>k8,fun h=>by cases h⟩
   ·cases h3;exact hx
  |abs j y=>simp only[PD] at h3;cases h3;exact hx
def Bv (n:Nat):List (Nat×T)→Bool
 |[]=>true
 |(_,t)::r=>t.lt n&&Bv n r
def xP (n:Nat):List (Nat×Ob)→Bool
 |[]=>true
 |(l,x)::r=>(nlt l n&&x.lt n)&&xP n r
theorem Jo {n:Nat}:∀{sl:List (Nat×T)} (k:Nat),Bv n sl=true→(gt sl k).lt n=true
 |[],k,_=>rfl
 |(j,t)::r,k,h=>by
  simp only[Bv,hV] at h
  by_cases hj:j=k
  ·subst hj;rw[dJ];exact h.1
  ·rw[cN _ _ hj];exact Jo k h.2
theorem sD {n:Nat}:∀{ob:List (Nat×Ob)} {l:Nat} {x:Ob},xP n ob=true→go ob l=some x→l<n∧x.lt n=true
 |(k,y)::r,l,x,h,hl=>by
  simp only[xP,hV] at h
  by_cases hk:k=l
  ·subst hk;rw[b8] at hl;cases hl;exact⟨cF h.1.1,h.1.2⟩
  ·rw[bu _ _ hk] at hl;exact sD h.2 hl
section
variable {E:Env} {w:World} {n:Nat} {p:Nat→Prop} (hp:∀l,l<n→(p l↔E.n l))
include hp
theorem EC {c:C} {u:Value} (hl:c.lt n=true) (h:cvC E w c u):cvC {E with n:=p} w c u:=by
 cases c with
 |wn o m=>
  have:=hp o (cF hl)
  rcases h with⟨h1,h2⟩|⟨h1,h2⟩
  ·exact .inl ⟨this.2 h1,h2⟩
  ·exact .inr ⟨fun k=>h1 (this.1 k),h2⟩
 |_=>exact h
theorem CB:∀{cs:List C} {us:List Value},cs.all (C.lt n)=true→CV E w cs us→CV {E with n:=p} w cs us
 |[],[],_,_=>trivial
 |c::cs,u::us,hl,h=>by
  simp only[Su,hV] at hl
  exact⟨EC hp hl.1 h.1,CB hl.2 h.2⟩
 |[],_::_,_,h=>h.elim
 |_::_,[],_,h=>h.elim
theorem ED {v:V} {u:Value} (hl:v.lt n=true) (h:cvV E w v u):cvV {E with n:=p} w v u:=by
 cases v with
 |c c=>exact EC hp hl h
 |agg cs=>obtain⟨arr,hu,h⟩:=h;exact⟨arr,hu,CB hp hl h⟩
theorem H1:∀{cs:List V} {us:List Value},cs.all (V.lt n)=true→VV E w cs us→VV {E with n:=p} w cs us
 |[],[],_,_=>trivial
 |c::cs,u::us,hl,h=>by
  simp only[Su,hV] at hl
  exact⟨ED hp hl.1 h.1,H1 hl.2 h.2⟩
 |[],_::_,_,h=>h.elim
 |_::_,[],_,h=>h.elim
theorem Lz {t:T} {u:Value} (hl:t.lt n=true) (h:cvT E w t u):cvT {E with n:=p} w t u:=by
 cases t with
 |v v=>exact ED hp hl h
 |tup ts=>obtain⟨arr,hu,h⟩:=h;exact⟨arr,hu,H1 hp hl h⟩
 |any=>trivial
theorem Hn {o:Nat} {x:Ob} (ho:o<n) (hl:x.lt n=true) (h:co E w o x):co {E with n:=p} w o x:=by
 cases x with
 |var t cs=>obtain⟨b,c,arr,k1,k2,k3,k4⟩:=h;exact⟨b,c,arr,k1,k2,CB hp hl k3,k4⟩
 |row t sz els g m=>exact h
 |rown t sz els g=>
  rcases h with⟨h1,h2⟩|⟨h1,h2⟩
  ·exact .inl ⟨(hp o ho).2 h1,h2⟩
  ·exact .inr ⟨fun k=>h1 ((hp o ho).1 k),h2⟩
 |abs j y=>
  rcases h with⟨h1,h2⟩|⟨h1,h2⟩
  ·exact .inl ⟨(hp o ho).2 h1,h2⟩
  ·exact .inr ⟨fun k=>h1 ((hp o ho).1 k),h2⟩
end
theorem Rg {N nx nx' ty sz:Nat} {g:Bool} {sl:List (Nat×T)} {ob:List (Nat×Ob)} (hs:Bv nx sl=true) (hb:xP nx ob=true) (hq:nxt nx=some nx') {cx:Cx} {E:Env} {a:Act} {w:World} (hR:Rel N cx E ⟨sl,ob,nx⟩ a w):
 Rel N cx {E with n:=fun l=>l=nx∨E.n l} ⟨sl,(nx,.rown ty sz [] g)::ob,nx'⟩ a w:=by
 have hp:∀l,l<nx→((l=nx∨E.n l)↔E.n l):=fun l h=>⟨fun k=>k.resolve_left (by omega),.inr⟩
 have hn:nx'=nx+1:=by
  unfold nxt at hq
  cases hr:rsv nx with
  |true=>rw[hr] at hq;cases hq
  |false=>rw[hr] at hq;exact(Option.some.inj hq).symm
 refine⟨hR.ok.setN _,fun o x h=>by have:=hR.dom o x h;simp only at this ⊢;omega,fun l x hl=>?_,fun k=>Lz hp (Jo k hs) (hR.sl k),hR.dfr,hR.size,fun l b h=>by have:=hR.td l b h;simp only at this ⊢;omega⟩
 by_cases e:nx=l
 ·subst e;rw[b8] at hl;cases hl;exact .inl ⟨.inl rfl,rfl⟩
 ·rw[bu _ _ e] at hl
  obtain⟨h1,h2⟩:=sD hb hl
  exact Hn hp h1 h2 (hR.obs l x hl)
def KH:Nat→C→List C→Option (List C)
 |0,x,.nil::cs=>some (x::cs)
 |j+1,x,c::cs=>match KH j x cs with
  |some r=>some (c::r)
  |none=>none
 |_,_,_=>none
theorem DL {E E':Env} {w:World} {x:C} (hx:cvC E' w x (.slice none 0 0)):∀{j:Nat} {cs cs':List C} {us:List Value},KH j x cs=some cs'→CV E w cs us→CV E' w cs us→CV E' w cs' us
 |0,.nil::cs,cs',us,h,h1,h2=>by
  simp[KH] at h;subst h
  cases us with
  |nil=>exact h1.elim
  |cons u us=>have:u= .slice none 0 0:=h1.1;subst this;exact⟨hx,h2.2⟩
 |j+1,c::cs,cs',us,h,h1,h2=>by
  simp only[KH] at h
  split at h
  ·rename_i h3
   simp at h;subst h
   cases us with
   |nil=>exact h1.elim
   |cons u us=>exact⟨h2.1,DL hx h3 h1.2 h2.2⟩
  ·cases h
theorem c8 {N nx nx' o j:Nat} {sl:List (Nat×T)} {ob:List (Nat×Ob)} {vt:TypeId} {cs cs':List C} (ty sz:Nat) (g:Bool) (ho:go ob o=some (.var vt cs):=by exact rfl) (hj:KH j (.wn nx 0) cs=some cs':=by exact rfl) (hs:Bv nx sl=true:=by exact rfl) (hb:xP nx ob=true:=by exact rfl) (hq:nxt nx=some nx':=by exact rfl):
 cZ N ⟨sl,ob,nx⟩ ⟨sl,(o,.var vt cs')::(nx,.rown ty sz [] g)::ob,nx'⟩:=by
 intro cx E a w hR
 have h:=Rg (ty:=ty) (sz:=sz) (g:=g) hs hb hq hR
 refine⟨_,h.ok,h.dom,fun l x hl=>?_,h.sl,h.dfr,h.size,h.td⟩
 by_cases e:o=l
 ·subst e
  rw[b8] at hl;cases hl
  have hne:nx≠o:=fun e=>by have:=(sD hb ho).1;omega
  have h2:=h.obs o (.var vt cs) (by rw[bu _ _ hne];exact ho)
  obtain⟨b,c,arr,k1,k2,k3,k4⟩:=hR.obs o _ ho
  obtain⟨b',c',arr',m1,m2,m3,m4⟩:=h2
  have k1':E.r o=some (b',c'):=m1
  rw[k1] at k1';cases k1'
  rw[k2] at m2;cases m2
  exact⟨b,c,arr,k1,k2,DL (x:=.wn nx 0) (Or.inl ⟨Or.inl rfl,rfl,rfl⟩) hj k3 m3,k4⟩
 ·rw[bu _ _ e] at hl;exact h.obs l x hl
section
variable {P:Program} {N:Nat} {d:Tmp} {ty:TypeId} {ps:String} {af:Array Edge} {gd:Option (Nat×Bool)} {x y z:Operand} {sl:List (Nat×T)} {ob:List (Nat×Ob)} {nx:Nat}
theorem Mz {d:Option Tmp} {t:TypeId} {o n e sz by_:Nat} [ht:TySl P t e sz by_]:AWN P ⟨d,.call ⟨.builtin .len,#[x],#[t]⟩,ty,ps,af,gd⟩ [(x,.v (.c (.wn o n)))] [] (tI n) []:=
 bY fun E ac w hn _=>by
  rcases hn x _ (.head _) with⟨_,h0,hu⟩|⟨_,b,c,hr,hu⟩
  ·subst h0;exact⟨_,by simp[execOp,resolve,invoke,builtin,hu,Builtin.len_,underlying,ht.u,goInt];rfl,by simp[cvT,cvV,cvC,rdD]⟩
  ·exact⟨_,by simp[execOp,resolve,invoke,builtin,hu,Builtin.len_,underlying,ht.u,goInt];rfl,by simp[cvT,cvV,cvC,rdD]⟩
theorem lwn {t:TypeId} {o n e sz by_:Nat} [TySl P t e sz by_] (hx:opT sl x= .v (.c (.wn o n))) (hN:nlt d N=true):NS0 P N ⟨some d,.call ⟨.builtin .len,#[x],#[t]⟩,ty,ps,af,gd⟩ sl ob nx d (tI n) ⟨d,[(x,.v (.c (.wn o n)))],[],tI n,[]⟩:=cV (st:=⟨sl,ob,nx⟩) Mz rfl hN ⟨hx,trivial⟩ trivial rfl
theorem Fw {st:St} {t:TypeId} {e sz by_ o n:Nat} {els ys:List (List D)} {g gy:Bool} {c:C} {sl':List (Nat×T)} {ob':List (Nat×Ob)} [ht:TySl P t e sz by_] (hrv:rsp o=false) (hnv:rsv st.nx=false) (hd:d<N)
 (hx:opT st.sl x= .v (.c (.wn o n))) (hy:opT st.sl y= .v (.c c)) (ho:go st.ob o=some (.rown e sz els g)) (hs:Src st.ob c ys gy) (hk:lU o st.sl=some sl') (hkb:jO o st.ob=some ob')
 (hn:els.length=n) (hne:ys≠[]) (hol:o<st.nx) (hsz:∀e∈ys,e.length=sz) (hb:(n+ys.length)*by_≤140737488355328) (h63:n+ys.length≤9223372036854775807):
 AWO P N ⟨some d,.call ⟨.builtin .append,#[x,y],#[t,t]⟩,ty,ps,af,gd⟩ st ⟨(d,.v (.c (.w o (n+ys.length))))::sl',(o,.row e sz (els++ys) (g&&gy) true)::ob',st.nx⟩:=by
 intro cx E a w hR
 have h1:=hR.op x;rw[hx] at h1
 have h2:=hR.op y;rw[hy] at h2
 have h3:=hR.obs o _ ho
 rcases h1 with⟨hE,h0,hu⟩|⟨hE,b,cc,hr,hu⟩
 ·subst h0
  have hels:els=[]:=Tf hn
  subst hels
  have hq1:E.r st.nx=none:=by
   cases hq:E.r st.nx with
   |none=>rfl
   |some p=>have:=hR.dom _ _ hq;omega
  have hoq:o≠st.nx:=by omega
  refine Oper.wp_mono ?_ (rh (P:=P) (d:=d) (ty:=ty) (ps:=ps) (af:=af) (gd:=gd) (t:=t) (q:=st.nx) hs hne hsz (by simpa using hb) (by omega) hR.ok hR.obs hq1 hnv hu h2)
  rintro a' w' ⟨v,E1,rfl,ok1,ext,hv,hob1,hdom⟩
  obtain⟨bn,cap,hrq,hvu⟩:=hv
  obtain⟨bn',cap',arr,hrq',hhn,j3,j4,j5,j6,j7,j8,_⟩:=hob1 _ _ (.head _)
  rw[hrq] at hrq';cases hrq'
  have hrE:∀l p,E1.r l=some p→l=st.nx∨E.r l=some p:=fun l p h=>by
   rcases hdom l p h with h|⟨ob,h⟩
   ·exact .inr h
   ·simp at h;exact .inl h.1
  let E2:Env:={E1 with r:=fun l=>if l=o then some (bn,cap) else if l=st.nx then none else E1.r l,n:=fun l=>l≠o∧E.n l}
  have hr2:∀l b c,E2.r l=some (b,c)→(l=o∧b=bn∧c=cap)∨(l≠o∧l≠st.nx∧E1.r l=some (b,c)):=by
   intro l b c h
   have h:(if l=o then some (bn,cap) else if l=st.nx then none else E1.r l)=some (b,c):=h
   split at h
   ·cases h;exact .inl ⟨by assumption,rfl,rfl⟩
   ·split at h
    ·cases h
    ·exact .inr ⟨by assumption,by assumption,h⟩
  have hback:∀l b c,E2.r l=some (b,c)→∃l',E1.r l'=some (b,c):=by
   intro l b c h
   rcases hr2 l b c h with⟨_,rfl,rfl⟩|⟨_,_,h⟩
   ·exact⟨st.nx,hrq⟩
   ·exact⟨l,h⟩
  have ok2:cK cx E2 w':=by
   refine⟨ok1.fb,ok1.gf,ok1.gn,fun l b c h=>?_,fun l l' b c c' h h'=>?_,ok1.os,ok1.tape,ok1.output,ok1.size,ok1.block,fun l p hv h=>?_,ok1.ff,ok1.gc,⟨fun l b h=>?_,ok1.sf.tt,fun b h=>?_,ok1.sf.zs,ok1.sf.ze⟩⟩
   ·rcases hr2 l b c h with⟨_,rfl,rfl⟩|⟨_,_,h⟩
    ·obtain⟨k1,k2⟩:=ok1.rb _ _ _ hrq
     exact⟨k1,.inl (k2.resolve_right (fun k=>by rw[hnv] at k;cases k.2))⟩
    ·exact ok1.rb l b c h
   ·rcases hr2 l b c h with⟨rfl,rfl,rfl⟩|⟨k1,k2,k3⟩<;>rcases hr2 l' _ c' h' with⟨rfl,e1,e2⟩|⟨m1,m2,m3⟩
    ·rfl
    ·exact absurd (ok1.inj _ _ _ _ _ m3 hrq) m2
    ·subst e1;exact absurd (ok1.inj _ _ _ _ _ k3 hrq) k2
    ·exact ok1.inj _ _ _ _ _ k3 m3
   ·obtain⟨b,c⟩:=p
    rcases hr2 l b c h with⟨rfl,_⟩|⟨_,_,h⟩
    ·rw[hrv] at hv;cases hv
    ·exact ok1.pin l _ hv h
   ·obtain⟨k1,k2,k3,k4⟩:=ok1.sf.tb l b h
    exact⟨k1,k2,fun l' c hl=>(hback l' b c hl).elim fun l'' h''=>k3 l'' c h'',k4⟩
   ·obtain⟨k1,k2,k3,k4⟩:=ok1.sf.zc b h
    exact⟨k1,k2,fun l' c hl=>(hback l' b c hl).elim fun l'' h''=>k3 l'' c h'',k4⟩
  have kp:=il.of_ext hR.ok ext
  have kb:jW o E w E2 w':=⟨fun l p hl h=>by
   show(if l=o then some (bn,cap) else if l=st.nx then none else E1.r l)=some p
   rw[if_neg hl,if_neg (fun e=>by subst e;rw[hq1] at h;cases h)]
   exact kp.r _ _ h,kp.H,kp.heap,kp.T,kp.Z,fun l hl=>⟨fun h=>h.2,fun h=>⟨hl,h⟩⟩⟩
  have hFb:∀b,b<w.heap.size→¬E.F b→¬E2.F b:=fun b hb hn h=>(ext.F' b h).elim hn (by omega)
  refine⟨E2,ok2,fun l p h=>?_,fun l ob hl=>?_,fun k=>?_,hR.dfr,by simpa [Act.put] using hR.size,fun l b h=>hR.td l b (by rw[←ext.T];exact h)⟩
  ·obtain⟨b,c⟩:=p
   rcases hr2 l b c h with⟨rfl,_⟩|⟨_,k2,h⟩
   ·exact hol
   ·rcases hrE _ _ h with h|h
    ·exact absurd h k2
    ·exact hR.dom _ _ h
  ·by_cases hlo:o=l
   ·subst hlo
    rw[b8] at hl;cases hl
    refine⟨bn,cap,arr,by show(if o=o then _ else _)=_;rw[if_pos rfl],hhn,j3,by simpa using j4,j5,by simpa using j6,?_,fun _=>j8 rfl,fun h=>by cases h⟩
    simp only[T8]
    exact cd (fun _ _=>rfl) (fun b hb=>by cases g<;>cases gy<;>first|exact hb|exact ok1.gf b hb) rfl _ _ j7
   ·rw[bu _ _ hlo] at hl
    rcases pW hkb hl with⟨t',cs,cs',k1,k2,rfl⟩|⟨t',sz',els',g',m',k1,rfl⟩|⟨t',sz',els',g',k1,rfl⟩|⟨j',y',k1,rfl⟩
    ·obtain⟨bl,cl,arrl,l1,l2,l3,l4⟩:=hR.obs l _ k1
     have hbl:=(hR.ok.rb _ _ _ l1).1
     exact⟨bl,cl,arrl,kb.r _ _ (Ne.symm hlo) l1,(ext.heap bl hbl).trans l2,tC kb k2 l3,hFb bl hbl l4⟩
    ·obtain⟨bl,cl,arrl,l1,l2,l3,l4,l5,l6,l7,l8,l9⟩:=hR.obs l _ k1
     have hbl:=(hR.ok.rb _ _ _ l1).1
     have hb2:=ext.heap bl hbl
     exact⟨bl,cl,arrl,kb.r _ _ (Ne.symm hlo) l1,hb2.trans l2,l3,l4,l5,l6,cd (kb.heap _) (kb.H _) hb2 _ _ l7,fun hm=>hFb bl hbl (l8 hm),fun hm=>⟨kb.H false _ (l9 hm).1,fun hg=>kb.H true _ ((l9 hm).2 hg)⟩⟩
    ·rcases hR.obs l _ k1 with⟨m1,m2⟩|⟨l0,bl,cl,arrl,l1,l2,l3,l4,l5,l6,l7,l8⟩
     ·exact .inl ⟨⟨Ne.symm hlo,m1⟩,m2⟩
     ·have hbl:=(hR.ok.rb _ _ _ l1).1
      have hb2:=ext.heap bl hbl
      exact .inr ⟨fun h=>l0 h.2,bl,cl,arrl,kb.r _ _ (Ne.symm hlo) l1,hb2.trans l2,l3,l4,l5,l6,cd (kb.heap _) (kb.H _) hb2 _ _ l7,hFb bl hbl l8⟩
    ·rcases hR.obs l _ k1 with⟨m1,m2⟩|⟨l0,bl,cl,l1,l2,l3⟩
     ·exact .inl ⟨⟨Ne.symm hlo,m1⟩,m2⟩
     ·have hbl:=(hR.ok.rb _ _ _ l1).1
      have hb2:=ext.heap bl hbl
      exact .inr ⟨fun h=>l0 h.2,bl,cl,kb.r _ _ (Ne.symm hlo) l1,y'.st _ _ _ _ _ _ l2 (fun k hk=>(kb.T _ k hk).1) hb2 (fun k hk=>(kb.T _ k hk).2),hFb bl hbl l3⟩
  ·rw[f8 (by rw[hR.size];exact hd)]
   by_cases hdk:d=k
   ·subst hdk;rw[dJ,if_pos rfl];exact⟨bn,cap,by show(if o=o then _ else _)=_;rw[if_pos rfl],by simpa using hvu⟩
   ·rw[cN _ _ hdk,if_neg hdk]
    rcases sx hk k with h|⟨h,h'⟩
    ·rw[h];trivial
    ·rw[h];exact CS kb h' (hR.sl k)
 ·rcases h3 with⟨hE',_⟩|⟨_,b',c',arr,hr',hh,ha,hlc,hmx,hes,hrd,hF⟩
  ·exact absurd hE' hE
  ·rw[hr] at hr';cases hr'
   exact xH hR hrv hd hr hu hh ha hlc hmx hes hrd hF hy hs hk hkb hn hsz hb h63
variable {α:Type} {enc:α→List D}
theorem yk {t:TypeId} {e sz by_ o n:Nat} {ys zs:List α} {zd:List (List D)} {g gy gg:Bool} {c:C} {sl':List (Nat×T)} {ob':List (Nat×Ob)} [TySl P t e sz by_] (H:cS by_ (ys++zs).length=true) (hne:zs≠[]) (hzd:zs.map enc=zd) (henc:∀a,(enc a).length=sz) (hn:ys.length=n) (hs:Src ob c zd gy) (hd:nlt d N=true)
 (hx:opT sl x= .v (.c (.wn o n))) (hy:opT sl y= .v (.c c)) (ho:go ob o=some (.rown e sz (ys.map enc) g)) (hk:lU o sl=some sl') (hkb:jO o ob=some ob') (hg:(g&&gy)=gg) (hrv:rsp o=false) (hnv:rsv nx=false) (hol:nlt o nx=true):
 AWO P N ⟨some d,.call ⟨.builtin .append,#[x,y],#[t,t]⟩,ty,ps,af,gd⟩ ⟨sl,ob,nx⟩ ⟨(d,.v (.c (.w o (ys++zs).length)))::sl',(o,.row e sz ((ys++zs).map enc) gg true)::ob',nx⟩:=by
 subst hzd;subst hg
 simp only[cS,decide_eq_true_eq,Tq] at H
 have:=Fw (st:=⟨sl,ob,nx⟩) (P:=P) (N:=N) (d:=d) (ty:=ty) (ps:=ps) (af:=af) (gd:=gd) (t:=t) (e:=e) (sz:=sz) (by_:=by_) hrv hnv (cF hd) hx hy ho hs hk hkb (by simpa using hn) (by simpa using hne) (cF hol) (G3 henc zs) (by subst hn;simp only[To];exact H.1) (by subst hn;simp only[To];omega)
 rw[←TJ,To,←hn,←Tq] at this
 exact this
end
end Go.AM
namespace Go.AM
open Go.RowKit
def z2 (p q:Nat):C→Option C
 | .w l n=>match d0 l p,d0 l q with
  |true,_=>some .any
  |false,true=>some (.w p n)
  |false,false=>some (.w l n)
 | .wn l n=>match d0 l p,d0 l q with
  |true,_=>some .any
  |false,true=>some (.wn p n)
  |false,false=>some (.wn l n)
 | .s l a b c=>match d0 l p,d0 l q with
  |true,_=>some .any
  |false,true=>some (.s p a b c)
  |false,false=>some (.s l a b c)
 | .p l k=>match d0 l p,d0 l q with
  |true,_=>some .any
  |false,true=>some (.p p k)
  |false,false=>some (.p l k)
 | .e l a b c=>match d0 l p,d0 l q with
  |true,_=>some .any
  |false,true=>some (.e p a b c)
  |false,false=>some (.e l a b c)
 |c=>some c
def yp (p q:Nat):List (Nat×Ob)→Option (List (Nat×Ob))
 |[]=>some []
 |(k,.var t cs)::r=>match d0 k p,d0 k q,lV (z2 p q) cs,yp p q r with
  |true,_,_,some r'=>some r'
  |false,true,some cs',some r'=>some ((p,.var t cs')::r')
  |false,false,some cs',some r'=>some ((k,.var t cs')::r')
  |_,_,_,_=>none
 |(k,.row t sz els g m)::r=>match d0 k p,d0 k q,yp p q r with
  |true,_,some r'=>some r'
  |false,true,some r'=>some ((p,.row t sz els g m)::r')
  |false,false,some r'=>some ((k,.row t sz els g m)::r')
  |_,_,_=>none
 |(k,.rown t sz els g)::r=>match d0 k p,d0 k q,yp p q r with
  |true,_,some r'=>some r'
  |false,true,some r'=>some ((p,.rown t sz els g)::r')
  |false,false,some r'=>some ((k,.rown t sz els g)::r')
  |_,_,_=>none
 |(k,.abs j y)::r=>match d0 k p,d0 k q,yp p q r with
  |true,_,some r'=>some r'
  |false,true,some r'=>some ((p,.abs j y)::r')
  |false,false,some r'=>some ((k,.abs j y)::r')
  |_,_,_=>none
def Env.ren (E:Env) (p q:Nat):Env:={E with r:=fun l=>if l=p then E.r q else if l=q then none else E.r l,n:=fun l=>if l=p then E.n q else E.n l}
def FN (p q l:Nat):Nat:=if l=q then p else l
def xk (p q:Nat):Ob→Ob→Prop
 | .var t cs,y=>∃cs',lV (z2 p q) cs=some cs'∧y= .var t cs'
 |x,y=>y=x
theorem Dw {p q:Nat} (hpq:p≠q) {l:Nat} {y:Ob}:∀{ob ob':List (Nat×Ob)},yp p q ob=some ob'→go ob' l=some y→∃l0 x,l0≠p∧l=FN p q l0∧go ob l0=some x∧xk p q x y
 |[],ob',h,hy=>by simp[yp] at h;subst h;cases hy
 |(k,x)::r,ob',h,hy=>by
  have key:∀(x':Ob) (r':List (Nat×Ob)),xk p q x x'→yp p q r=some r'→(d0 k p=true∧ob'=r')∨(d0 k p=false∧d0 k q=true∧ob'=(p,x')::r')∨(d0 k p=false∧d0 k q=false∧ob'=(k,x')::r')→
   ∃l0 x0,l0≠p∧l=FN p q l0∧go ((k,x)::r) l0=some x0∧xk p q x0 y:=by
   intro x' r' hx hr hc
   have hrec:go r' l=some y→∃l0 x0,l0≠p∧l=FN p q l0∧go r l0=some x0∧xk p q x0 y:=fun h=>Dw hpq hr h
   rcases hc with⟨h1,rfl⟩|⟨h1,h2,rfl⟩|⟨h1,h2,rfl⟩
   ·obtain⟨l0,x0,a1,a2,a3,a4⟩:=hrec hy
    have:=RU h1
    subst this
    exact⟨l0,x0,a1,a2,by rw[bu _ _ (Ne.symm a1)];exact a3,a4⟩
   ·have:=RU h2
    subst this
    by_cases e:p=l
    ·subst e
     rw[b8] at hy;cases hy
     exact⟨k,x,gp h1,by simp[FN],b8 _ _ _,hx⟩
    ·rw[bu _ _ e] at hy
     obtain⟨l0,x0,a1,a2,a3,a4⟩:=hrec hy
     have hl0:k≠l0:=fun e'=>e (by rw[a2,←e'];simp[FN])
     exact⟨l0,x0,a1,a2,by rw[bu _ _ hl0];exact a3,a4⟩
   ·have hkp:=gp h1
    have hkq:=gp h2
    by_cases e:k=l
    ·subst e
     rw[b8] at hy;cases hy
     exact⟨k,x,hkp,by simp[FN,hkq],b8 _ _ _,hx⟩
    ·rw[bu _ _ e] at hy
     obtain⟨l0,x0,a1,a2,a3,a4⟩:=hrec hy
     have hl0:k≠l0:=fun e'=>e (by rw[a2,←e'];simp[FN,hkq])
     exact⟨l0,x0,a1,a2,by rw[bu _ _ hl0];exact a3,a4⟩
  cases x with
  |var t cs=>
   simp only[yp] at h
   split at h
   ·rename_i h1 h2
    cases h
    cases hm:lV (z2 p q) cs with
    |some cs'=>exact key (.var t cs') _ ⟨cs',hm,rfl⟩ h2 (.inl ⟨h1,rfl⟩)
    |none=>
     obtain⟨l0,x0,a1,a2,a3,a4⟩:=Dw hpq h2 hy
     have:=RU h1
     subst this
     exact⟨l0,x0,a1,a2,by rw[bu _ _ (Ne.symm a1)];exact a3,a4⟩
   ·rename_i h1 h2 h3 h4;cases h;exact key _ _ ⟨_,h3,rfl⟩ h4 (.inr (.inl ⟨h1,h2,rfl⟩))
   ·rename_i h1 h2 h3 h4;cases h;exact key _ _ ⟨_,h3,rfl⟩ h4 (.inr (.inr ⟨h1,h2,rfl⟩))
   ·cases h
  |row t sz els g m=>
   simp only[yp] at h
   split at h
   ·rename_i h1 h2;cases h;exact key _ _ (show xk p q (.row t sz els g m) (.row t sz els g m) from rfl) h2 (.inl ⟨h1,rfl⟩)
   ·rename_i h1 h2 h3;cases h;exact key _ _ (show xk p q (.row t sz els g m) (.row t sz els g m) from rfl) h3 (.inr (.inl ⟨h1,h2,rfl⟩))
   ·rename_i h1 h2 h3;cases h;exact key _ _ (show xk p q (.row t sz els g m) (.row t sz els g m) from rfl) h3 (.inr (.inr ⟨h1,h2,rfl⟩))
   ·cases h
  |rown t sz els g=>
   simp only[yp] at h
   split at h
   ·rename_i h1 h2;cases h;exact key _ _ (show xk p q (.rown t sz els g) (.rown t sz els g) from rfl) h2 (.inl ⟨h1,rfl⟩)
   ·rename_i h1 h2 h3;cases h;exact key _ _ (show xk p q (.rown t sz els g) (.rown t sz els g) from rfl) h3 (.inr (.inl ⟨h1,h2,rfl⟩))
   ·rename_i h1 h2 h3;cases h;exact key _ _ (show xk p q (.rown t sz els g) (.rown t sz els g) from rfl) h3 (.inr (.inr ⟨h1,h2,rfl⟩))
   ·cases h
  |abs j z=>
   simp only[yp] at h
   split at h
   ·rename_i h1 h2;cases h;exact key _ _ (show xk p q (.abs j z) (.abs j z) from rfl) h2 (.inl ⟨h1,rfl⟩)
   ·rename_i h1 h2 h3;cases h;exact key _ _ (show xk p q (.abs j z) (.abs j z) from rfl) h3 (.inr (.inl ⟨h1,h2,rfl⟩))
   ·rename_i h1 h2 h3;cases h;exact key _ _ (show xk p q (.abs j z) (.abs j z) from rfl) h3 (.inr (.inr ⟨h1,h2,rfl⟩))
   ·cases h
theorem N2 {N nx:Nat} {sl sl':List (Nat×T)} {ob ob':List (Nat×Ob)} (p q:Nat) (hp:rsp p=false:=by exact rfl) (hq:rsv q=false:=by exact rfl) (hpq:d0 p q=false:=by exact rfl) (hpn:nlt p nx=true:=by exact rfl) (hs:xb (z2 p q) sl=some sl':=by exact rfl) (hb:yp p q ob=some ob':=by exact rfl):cZ N ⟨sl,ob,nx⟩ ⟨sl',ob',nx⟩:=by
 have hne:=gp hpq
 intro cx E a w hR
 have hrp:(E.ren p q).r p=E.r q:=by simp[Env.ren]
 have hrl:∀l,l≠p→l≠q→(E.ren p q).r l=E.r l:=fun l h1 h2=>by simp[Env.ren,h1,h2]
 have hnp:(E.ren p q).n p=E.n q:=by simp[Env.ren]
 have hnl:∀l,l≠p→(E.ren p q).n l=E.n l:=fun l h1=>by simp[Env.ren,h1]
 have hr2:∀l b c,(E.ren p q).r l=some (b,c)→(l=p∧E.r q=some (b,c))∨(l≠p∧l≠q∧E.r l=some (b,c)):=by
  intro l b c h
  simp only[Env.ren] at h
  split at h
  ·exact .inl ⟨by assumption,h⟩
  ·split at h
   ·cases h
   ·exact .inr ⟨by assumption,by assumption,h⟩
 have hf:∀c c' u,z2 p q c=some c'→cvC E w c u→cvC (E.ren p q) w c' u:=by
  intro c c' u h hc
  cases c with
  |w l n=>
   simp only[z2] at h
   split at h
   ·cases h;trivial
   ·rename_i h1 h2;cases h;have:=RU h2;subst this;obtain⟨b,k,h3,h4⟩:=hc;exact⟨b,k,hrp.trans h3,h4⟩
   ·rename_i h1 h2;cases h;obtain⟨b,k,h3,h4⟩:=hc;exact⟨b,k,(hrl _ (gp h1) (gp h2)).trans h3,h4⟩
  |wn l n=>
   simp only[z2] at h
   split at h
   ·cases h;trivial
   ·rename_i h1 h2;cases h;have:=RU h2;subst this
    rcases hc with⟨h3,h4⟩|⟨h3,b,k,h5,h6⟩
    ·exact .inl ⟨by rw[hnp];exact h3,h4⟩
    ·exact .inr ⟨by rw[hnp];exact h3,b,k,hrp.trans h5,h6⟩
   ·rename_i h1 h2;cases h
    rcases hc with⟨h3,h4⟩|⟨h3,b,k,h5,h6⟩
    ·exact .inl ⟨by rw[hnl _ (gp h1)];exact h3,h4⟩
    ·exact .inr ⟨by rw[hnl _ (gp h1)];exact h3,b,k,(hrl _ (gp h1) (gp h2)).trans h5,h6⟩
  |s l a1 a2 a3=>
   simp only[z2] at h
   split at h
   ·cases h;trivial
   ·rename_i h1 h2;cases h;have:=RU h2;subst this;obtain⟨A,c,b,k,h3,h4⟩:=hc;exact⟨A,c,b,k,hrp.trans h3,h4⟩
   ·rename_i h1 h2;cases h;obtain⟨A,c,b,k,h3,h4⟩:=hc;exact⟨A,c,b,k,(hrl _ (gp h1) (gp h2)).trans h3,h4⟩
  |p l n=>
   simp only[z2] at h
   split at h
   ·cases h;trivial
   ·rename_i h1 h2;cases h;have:=RU h2;subst this;obtain⟨b,k,h3,h4⟩:=hc;exact⟨b,k,hrp.trans h3,h4⟩
   ·rename_i h1 h2;cases h;obtain⟨b,k,h3,h4⟩:=hc;exact⟨b,k,(hrl _ (gp h1) (gp h2)).trans h3,h4⟩
  |e l a1 a2 a3=>
   simp only[z2] at h
   split at h
   ·cases h;trivial
   ·rename_i h1 h2;cases h;have:=RU h2;subst this;obtain⟨b,k,h3,h4⟩:=hc;exact⟨b,k,hrp.trans h3,h4⟩
   ·rename_i h1 h2;cases h;obtain⟨b,k,h3,h4⟩:=hc;exact⟨b,k,(hrl _ (gp h1) (gp h2)).trans h3,h4⟩
  |_=>simp only[z2] at h;cases h;exact hc
 have ok:=hR.ok
 have hback:∀l b c,(E.ren p q).r l=some (b,c)→∃l',E.r l'=some (b,c):=fun l b c h=>(hr2 l b c h).elim (fun h=>⟨q,h.2⟩) (fun h=>⟨l,h.2.2⟩)
 refine⟨E.ren p q,⟨ok.fb,ok.gf,ok.gn,fun l b c h=>?_,fun l l' b c c' h h'=>?_,ok.os,ok.tape,ok.output,ok.size,ok.block,fun l x hv h=>?_,ok.ff,ok.gc,⟨fun l b h=>?_,ok.sf.tt,fun b h=>?_,ok.sf.zs,ok.sf.ze⟩⟩,fun l x h=>?_,fun l y hl=>?_,fun k=>vH hf hs (hR.sl k),hR.dfr,hR.size,hR.td⟩
 ·rcases hr2 l b c h with⟨_,h⟩|⟨_,_,h⟩
  ·obtain⟨k1,k2⟩:=ok.rb _ _ _ h
   exact⟨k1,.inl (k2.resolve_right (fun k=>by rw[hq] at k;cases k.2))⟩
  ·exact ok.rb l b c h
 ·rcases hr2 l b c h with⟨rfl,k3⟩|⟨k1,k2,k3⟩<;>rcases hr2 l' b c' h' with⟨e,m3⟩|⟨m1,m2,m3⟩
  ·exact e.symm
  ·exact absurd (ok.inj _ _ _ _ _ m3 k3) m2
  ·exact absurd (ok.inj _ _ _ _ _ k3 m3) k2
  ·exact ok.inj _ _ _ _ _ k3 m3
 ·obtain⟨b,c⟩:=x
  rcases hr2 l b c h with⟨rfl,_⟩|⟨_,_,h⟩
  ·rw[hp] at hv;cases hv
  ·exact ok.pin l _ hv h
 ·obtain⟨k1,k2,k3,k4⟩:=ok.sf.tb l b h
  exact⟨k1,k2,fun l' c hl=>(hback l' b c hl).elim fun l'' h''=>k3 l'' c h'',k4⟩
 ·obtain⟨k1,k2,k3,k4⟩:=ok.sf.zc b h
  exact⟨k1,k2,fun l' c hl=>(hback l' b c hl).elim fun l'' h''=>k3 l'' c h'',k4⟩
 ·obtain⟨b,c⟩:=x
  rcases hr2 l b c h with⟨rfl,_⟩|⟨_,_,h⟩
  ·exact cF hpn
  ·exact hR.dom l _ h
 ·obtain⟨l0,x,a1,a2,a3,a4⟩:=Dw hne hb hl
  have hx:=hR.obs l0 x a3
  have hlab:(E.ren p q).r l=E.r l0∧(E.ren p q).n l=E.n l0:=by
   subst a2
   unfold FN
   split
   ·rename_i e;subst e;exact⟨hrp,hnp⟩
   ·rename_i e;exact⟨hrl _ a1 e,hnl _ a1⟩
  cases x with
  |var t cs=>
   obtain⟨cs',h1,rfl⟩:=a4
   obtain⟨b,c,arr,k1,k2,k3,k4⟩:=hx
   exact⟨b,c,arr,hlab.1.trans k1,k2,pY hf h1 k3,k4⟩
  |row t sz els g m=>
   have a4:y= .row t sz els g m:=a4
   subst a4
   obtain⟨b,c,arr,k1,k2⟩:=hx
   exact⟨b,c,arr,hlab.1.trans k1,k2⟩
  |rown t sz els g=>
   have a4:y= .rown t sz els g:=a4
   subst a4
   rcases hx with⟨h1,h2⟩|⟨h1,b,c,arr,k1,k2⟩
   ·exact .inl ⟨by rw[hlab.2];exact h1,h2⟩
   ·exact .inr ⟨by rw[hlab.2];exact h1,b,c,arr,hlab.1.trans k1,k2⟩
  |abs j z=>
   have a4:y= .abs j z:=a4
   subst a4
   rcases hx with⟨h1,h2⟩|⟨h1,b,c,k1,k2⟩
   ·exact .inl ⟨by rw[hlab.2];exact h1,h2⟩
   ·exact .inr ⟨by rw[hlab.2];exact h1,b,c,hlab.1.trans k1,k2⟩
structure VIn (E:Env) (w:World):Prop where
 fb:∀b,E.F b→b<w.heap.size
 gf:∀b,E.G b→E.F b
 rb:∀o b c,E.r o=some (b,c)→b<w.heap.size∧rsv o=true∧¬E.F b
 inj:∀o o' b c c',E.r o=some (b,c)→E.r o'=some (b,c')→o=o'
 T:∀l b,¬E.T l b
 Z:∀b,¬E.Z b
structure VOut (E:Env) (w:World) (E':Env) (w':World):Prop where
 past:CG w w' (fun k=>∃o c,E.r o=some (k,c))
 fb:∀b,E'.F b→b<w'.heap.size
 f0:∀b,E'.F b→E.F b∨(w.heap.size≤b∧gA w' b)
 F:∀b,E.F b→E'.F b
 G:∀b,E.G b→E'.G b
 gf:∀b,E'.G b→E'.F b
 g0:∀b,E'.G b→w.heap.size≤b∨E.G b
 rb:∀o b c,E'.r o=some (b,c)→b<w'.heap.size∧(w.heap.size≤b∨((∃o' c',E.r o'=some (b,c'))∧rsv o=true))
 inj:∀o o' b c c',E'.r o=some (b,c)→E'.r o'=some (b,c')→o=o'
 pin:∀o x,rsp o=true→E'.r o=some x→E.r o=some x
structure FnV (P:Program) (f:FuncId) (xs:List (Nat×Ob)) (args:List T) (ys:List (Nat×Ob)) (out:T) (nw:List (Nat×Ob)):Prop where
 enters:∀(vs:Array Value) (w:World),(callFunc f vs).run P w= .ok (.enter f vs) w
 calls:∀(E:Env) (w:World) (vals:Array Value),VIn E w→TabsIn w→(∀k∈qO,∀o c,E.r o≠some (k,c))→(∀l x,go xs l=some x→co E w l x)→TV E w args vals.toList→
  Calls P f vals w fun e w'=>∃v E',e= .returned v∧VOut E w E' w'∧cvT E' w' out v∧(∀l y,go ys l=some y→co E' w' l y)∧(∀l y,go nw l=some y→co E' w' l y)
def MQ:List V→T
 |[v]=>.v v
 |vs=>.tup vs
def LoA (ob:List (Nat×Ob)):List (Nat×Ob)→Prop
 |[]=>True
 |(l,x)::r=>go ob l=some x∧LoA ob r
theorem CF {ob:List (Nat×Ob)}:∀{l:List (Nat×Ob)} {k:Nat} {x:Ob},LoA ob l→go l k=some x→go ob k=some x
 |(j,y)::r,k,x,h,hg=>by
  by_cases e:j=k
  ·subst e;rw[b8] at hg;cases hg;exact h.1
  ·rw[bu _ _ e] at hg;exact CF h.2 hg
def rL (N:Nat) (P:Program) (rs:List ResultVar) (ys:List (Nat×Ob)) (out:T) (nw:List (Nat×Ob)):Exit→St→Prop
 | .ret,s| .normal,s=>∃s' vs,cZ N s s'∧mK P s' rs vs∧MQ vs=out∧LoA s'.ob ys∧LoA s'.ob nw
 |_,_=>False
instance {N:Nat} {P:Program} {rs:List ResultVar} {ys:List (Nat×Ob)} {out:T} {nw:List (Nat×Ob)}:Clo N (rL N P rs ys out nw):=⟨fun e s m hw h=>by
 cases e<;>simp only[rL] at h ⊢<;>first|exact h|(obtain⟨s',vs,h1,h2⟩:=h;exact⟨s',vs,aq hw h1,h2⟩)⟩
theorem cG {N:Nat} {P:Program} {rs:List ResultVar} {res:List RV} {e:Exit} {s m:St} (hw:cZ N s m) (h:CH N P rs res e m):CH N P rs res e s:=Clo.h (N:=N) _ _ _ hw h
theorem bU {N:Nat} {P:Program} {rs:List ResultVar} {ys:List (Nat×Ob)} {out:T} {nw:List (Nat×Ob)} {e:Exit} {s m:St} (hw:cZ N s m) (h:rL N P rs ys out nw e m):rL N P rs ys out nw e s:=Clo.h (N:=N) _ _ _ hw h
theorem bV {N:Nat} {P:Program} {s:St} {rs:List ResultVar} {ys:List (Nat×Ob)} {out out':T} {nw:List (Nat×Ob)} {vs:List V} (h:mK P s rs vs:=by repeat' (first|exact .nil|apply mK.cons|exact .tmp rfl|exact .cell rfl rfl rfl|exact .cell1 rfl rfl)) (ho:MQ vs=out':=by exact rfl) (e:out'=out:=by first|rfl|simp) (hy:LoA s.ob ys:=by repeat (first|exact trivial|refine⟨rfl,?_⟩)) (hn:LoA s.ob nw:=by repeat (first|exact trivial|refine⟨rfl,?_⟩)):rL N P rs ys out nw .ret s:=by
 subst e;exact⟨s,vs,tW s,h,ho,hy,hn⟩
theorem sb {N:Nat} {P:Program} {s:St} {rs:List ResultVar} {ys:List (Nat×Ob)} {out out':T} {nw:List (Nat×Ob)} {vs:List V} (h:mK P s rs vs:=by repeat' (first|exact .nil|apply mK.cons|exact .tmp rfl|exact .cell rfl rfl rfl|exact .cell1 rfl rfl)) (ho:MQ vs=out':=by exact rfl) (e:out'=out:=by first|rfl|simp) (hy:LoA s.ob ys:=by repeat (first|exact trivial|refine⟨rfl,?_⟩)) (hn:LoA s.ob nw:=by repeat (first|exact trivial|refine⟨rfl,?_⟩)):rL N P rs ys out nw .normal s:=by
 subst e;exact⟨s,vs,tW s,h,ho,hy,hn⟩
theorem Rj {o:Nat} (h:rsv o=true):o<210:=by
 simp only[rsv,nlt,hV,Nat.ble_eq] at h;omega
theorem LZ {P:Program} {f:FuncId} {fn:Func} {c:Code} {N:Nat} {xs ys:List (Nat×Ob)} {args:List T} {rs:List ResultVar} {out:T} {nw:List (Nat×Ob)} {sl0:List (Nat×T)} (hf:P.funcs[f]?=some fn) (hb:fn.body=some c:=by exact rfl) (hnm:(fn.name== "runtime.NumGoroutine")=false:=by kernel_rfl) (hN:fn.ntmps=N) (hrs:fn.results.toList=rs:=by exact rfl)
 (ha:Nat.ble args.length N=true:=by exact rfl) (hs:rQ 0 args=sl0:=by exact rfl) (h:AWC P N c ⟨sl0,xs,210⟩ (rL N P rs ys out nw)):FnV P f xs args ys out nw:=by
 subst hs
 refine⟨fun vs w=>by simp[callFunc,hf,hb];simpa using hnm,fun E w vals hI hT hTb hx hA=>?_⟩
 subst hrs
 refine calls_of_wp hf hb ?_
 obtain⟨h1,h2⟩:=yz 0 hA
 have hle:args.length≤N:=Tu ha
 have hsz:vals.size=args.length:=by simpa using h1
 have hR:Rel N ⟨w,fun k=>∃o c,E.r o=some (k,c),E.r,E.F,fun _=>False,⟨hT,fun k hk ⟨o,c,h⟩=>hTb k hk o c h⟩,E.G⟩ E ⟨rQ 0 args,xs,210⟩ {tmps:=vals++Array.replicate (fn.ntmps-vals.size) undef,defers:=[]} w:=by
  refine⟨⟨hI.fb,hI.gf,fun _ h=>.inr h,fun o k k' h=>?_,hI.inj,rfl,rfl,rfl,RX _,fun _ _ _=>rfl,fun _ _ _ h=>h,fun _ h=>.inl h,fun b h h'=>absurd (hI.fb b h) (by have:w.heap.size≤b:=h';omega),⟨fun l b h=>absurd h (hI.T l b),fun l _ b h=>absurd h (hI.T l b),fun _ h=>h.elim,fun _ h=>h.elim,fun b h=>absurd h (hI.Z b)⟩⟩,fun o p h=>?_,fun o ob h=>hx o ob h,fun k=>?_,rfl,by simp;omega,fun l b h=>absurd h (hI.T l b)⟩
  ·obtain⟨k1,k2,_⟩:=hI.rb o k k' h;exact⟨k1,.inr ⟨⟨o,k',h⟩,k2⟩⟩
  ·exact Rj (hI.rb o p.1 p.2 h).2.1
  ·by_cases hk:k<args.length
   ·obtain⟨u,h3,h4⟩:=(h2 k).1 ⟨Ta _,by omega⟩
    have:(vals++Array.replicate (fn.ntmps-vals.size) undef).getD k undef=u:=by
     have h5:vals[k]?=some u:=by simpa using h3
     have h6:(vals++Array.replicate (fn.ntmps-vals.size) undef)[k]?=some u:=by rw[Array.getElem?_append_left (by omega)];exact h5
     simp[h6]
    rw[this];exact h4
   ·have:=(h2 k).2 (by omega)
    show cvT _ w (gt (rQ 0 args) k) _
    rw[this];trivial
 refine wp_mono (h _ _ _ w hR) ?_
 rintro e a' w' ⟨E',s',hR',hq⟩
 have fin:(∃s'' vs,cZ N s' s''∧mK P s'' fn.results.toList vs∧MQ vs=out∧LoA s''.ob ys∧LoA s''.ob nw)→
  a'.defers=[]∧∃v,(results fn a'.tmps).run P w'= .ok v w'∧∃v' E',Ending.returned v= .returned v'∧VOut E w E' w'∧cvT E' w' out v'∧(∀l y,go ys l=some y→co E' w' l y)∧(∀l y,go nw l=some y→co E' w' l y):=by
  rintro⟨s'',vs,hw,hres,ho,hys,hnw⟩
  obtain⟨E'',hR''⟩:=hw _ _ _ _ hR'
  have ok:=hR''.ok
  obtain⟨us,k1,k2⟩:=rN hR'' hres
  have hm:(fn.results.mapM (jK a'.tmps)).run P w'= .ok us.toArray w':=by
   rw[←Array.toArray_toList (xs:=fn.results),List.mapM_toArray]
   simp only[Sem.run_map,k1]
   rfl
  have hrr:results fn a'.tmps=(fn.results.mapM (jK a'.tmps))>>= fun vs=>pure (if h:vs.size=1 then vs[0] else .tuple vs):=rfl
  have hv:∃v,(results fn a'.tmps).run P w'= .ok v w'∧cvT E'' w' out v:=by
   subst ho
   match vs,us,k2 with
   |[],[],_=>exact⟨.tuple #[],by rw[hrr];simp[hm],#[],rfl,trivial⟩
   |[v],[u],k2=>exact⟨u,by rw[hrr];simp[hm],k2.1⟩
   |v1::v2::vs,u1::u2::us,k2=>exact⟨.tuple (u1::u2::us).toArray,by rw[hrr];simp[hm],_,rfl,k2⟩
  obtain⟨v,q1,q2⟩:=hv
  have hk:il E'' w' {E'' with F:=fun b=>E''.F b∨E.F b,G:=fun b=>E''.G b∨E.G b} w':=⟨fun _ _ h=>h,fun g b h=>by cases g<;>exact .inl h,fun _ _ _=>rfl,fun _ _ h=>⟨h,rfl⟩,fun _ h=>⟨h,.refl _ _⟩,rfl⟩
  have hob:∀l y,go s''.ob l=some y→co {E'' with F:=fun b=>E''.F b∨E.F b,G:=fun b=>E''.G b∨E.G b} w' l y:=fun l y h=>
   eU hk (fun _ _ _=>rfl) (fun b c hr hn hF=>hF.elim hn (fun hF=>by
    rcases(ok.rb l b c hr).2 with k|⟨⟨o,c',k⟩,_⟩
    ·have:=hI.fb b hF;simp only at k;omega
    ·exact(hI.rb o b c' k).2.2 hF)) (hR''.obs l y h)
  refine⟨hR''.dfr,v,q1,v,{E'' with F:=fun b=>E''.F b∨E.F b,G:=fun b=>E''.G b∨E.G b},rfl,⟨⟨ok.os,ok.tape,ok.output,ok.size,ok.block⟩,fun b h=>h.elim (ok.fb b) (fun h=>by have:=hI.fb b h;have:=ok.size;simp only at this;omega),fun b h=>h.elim (fun h=>(ok.ff b h).elim .inl (fun k=>.inr ⟨k,ok.gc b h k⟩)) .inl,fun b h=>.inr h,fun b h=>.inr h,fun b h=>h.imp (ok.gf b) (hI.gf b),fun b h=>h.elim (ok.gn b) .inr,fun o b c h=>?_,ok.inj,fun o x hv h=>?_⟩,?_,?_,?_⟩
  ·obtain⟨m1,m2⟩:=ok.rb o b c h
   exact⟨m1,m2⟩
  ·exact ok.pin o x hv h
  ·exact ie hk q2
  ·exact fun l y h=>hob l y (CF hys h)
  ·exact fun l y h=>hob l y (CF hnw h)
 cases e with
 |normal=>exact fin hq
 |ret=>exact fin hq
 |_=>exact hq.elim
end Go.AM
namespace Go.AM
open Go.RowKit
def cW:List (Nat×Nat)→Nat→Option Nat
 |[],_=>none
 |(a,b)::r,n=>match d0 a n with
  |true=>some b
  |false=>cW r n
def inv:List (Nat×Nat)→List (Nat×Nat)
 |[]=>[]
 |(a,b)::r=>(b,a)::inv r
theorem dF {a b:Nat}:∀{m:List (Nat×Nat)},cW m a=some b→(a,b)∈m
 |(x,y)::r,h=>by
  simp only[cW] at h
  split at h
  ·rename_i hb;have:=RU hb;subst this;cases h;exact .head _
  ·exact .tail _ (dF h)
theorem gF {a b:Nat}:∀{m:List (Nat×Nat)},(m.map (·.1)).Nodup→(a,b)∈m→cW m a=some b
 |(x,y)::r,hn,h=>by
  simp only[cW]
  simp only[TI,List.nodup_cons] at hn
  rcases List.mem_cons.1 h with e|h
  ·cases e;simp
  ·have hne:x≠a:=fun e=>hn.1 (by subst e;exact List.mem_map.2 ⟨_,h,rfl⟩)
   rw[pB hne];exact gF hn.2 h
theorem mV {a b:Nat}:∀{m:List (Nat×Nat)},(b,a)∈inv m↔(a,b)∈m
 |[]=>by simp[inv]
 |(x,y)::r=>by
  simp only[inv,List.mem_cons,Prod.mk.injEq,mV (m:=r)]
  constructor
  ·rintro(⟨h1,h2⟩|h)
   ·exact .inl ⟨h2,h1⟩
   ·exact .inr h
  ·rintro(⟨h1,h2⟩|h)
   ·exact .inl ⟨h2,h1⟩
   ·exact .inr h
theorem sr:∀(m:List (Nat×Nat)),(inv m).map (·.1)=m.map (·.2)
 |[]=>rfl
 |(x,y)::r=>by simp[inv,sr r]
def rlC (m:List (Nat×Nat)):C→Option C
 | .d g x=>some (.d g x)
 | .nil=>some .nil
 | .any=>some .any
 | .fn f=>some (.fn f)
 | .w l n=>match cW m l with
  |some k=>some (.w k n)
  |none=>none
 | .wn l n=>match cW m l with
  |some k=>some (.wn k n)
  |none=>none
 | .p l j=>match cW m l with
  |some k=>some (.p k j)
  |none=>none
 |_=>none
def rlB (ob:List (Nat×Ob)) (m:List (Nat×Nat)):C→Option C
 | .d g x=>some (.d g x)
 | .nil=>some .nil
 | .any=>some .any
 | .fn f=>some (.fn f)
 | .w l n=>match cW m l,go ob l with
  |some k,some (.row ..)=>some (.w k n)
  |_,_=>none
 | .wn l n=>match cW m l,go ob l with
  |some k,some (.rown ..)=>some (.wn k n)
  |_,_=>none
 | .p l j=>match cW m l,go ob l with
  |some k,some (.var ..)=>some (.p k j)
  |_,_=>none
 |_=>none
def agC (up:Bool) (ob:List (Nat×Ob)) (m:List (Nat×Nat)):C→Option C
 | .d g x=>some (.d (up&&g) x)
 | .nil=>some (.d up (.l []))
 |c=>rlB ob m c
def rr (f:C→Option C):List T→Option (List T)
 |[]=>some []
 |c::cs=>match vI f c,rr f cs with
  |some x,some xs=>some (x::xs)
  |_,_=>none
def Bj (f:C→Option C):Ob→Option Ob
 | .var t cs=>match lV f cs with
  |some cs'=>some (.var t cs')
  |none=>none
 | .row t sz els g true=>some (.row t sz els g true)
 | .row _ _ _ _ false=>none
 | .rown t sz els g=>some (.rown t sz els g)
 | .abs _ _=>none
def vP (mi:List (Nat×Nat)) (ob:List (Nat×Ob)):List (Nat×Nat)→Option (List (Nat×Ob))
 |[]=>some []
 |(k,o)::r=>match go ob o with
  |some x=>match Bj (rlB ob mi) x,vP mi ob r with
   |some y,some ys=>some ((k,y)::ys)
   |_,_=>none
  |none=>none
def ry (m:List (Nat×Nat)):List (Nat×Ob)→Option (List (Nat×Ob))
 |[]=>some []
 |(k,x)::r=>match cW m k,Bj (rlC m) x,ry m r with
  |some o,some y,some ys=>some ((o,y)::ys)
  |_,_,_=>none
def kvC (mi:List (Nat×Nat)):C→Option C
 | .w l n=>match cW mi l with
  |some _=>some .any
  |none=>some (.w l n)
 | .wn l n=>match cW mi l with
  |some _=>some .any
  |none=>some (.wn l n)
 | .s l a b c=>match cW mi l with
  |some _=>some .any
  |none=>some (.s l a b c)
 | .e l a b c=>match cW mi l with
  |some _=>some .any
  |none=>some (.e l a b c)
 | .p l j=>match cW mi l with
  |some k=>match rsp k with
   |true=>some (.p l j)
   |false=>some .any
  |none=>some (.p l j)
 |c=>some c
def Mb (ys:List (Nat×Ob)) (k:Nat):Bool:=match go ys k with
 |some (.var ..)=>true
 |_=>false
def Ic (nx:Nat):List (Nat×Nat)→Nat→Bool
 |[],n=>d0 n nx
 |(k,o)::r,n=>((d0 o nx&&!rsv nx)&&!rsv k)&&Ic (nx+1) r n
def mOK (m nl:List (Nat×Nat)) (nx n:Nat) (ys:List (Nat×Ob)):Bool:=
 ((lp ((m++nl).map (·.1))&&lp ((m++nl).map (·.2)))&&(m.all (fun p=>rsv p.1&&nlt p.2 nx)&&Ic nx nl n))&&
  ((m.all (fun p=>rsp p.1||rsv p.2)||m.all (fun p=>rsp p.1||!rsv p.2))&&m.all (fun p=>(!rsp p.2||rsp p.1)&&((!rsp p.1||Mb ys p.1)&&(go ys p.1).isSome)))
theorem Ez:∀{nl:List (Nat×Nat)} {nx n:Nat},Ic nx nl n=true→nx≤n∧∀k o,(k,o)∈nl→nx≤o∧o<n∧rsv o=false∧rsv k=false
 |[],nx,n,h=>by have:=RU h;subst this;exact⟨RX _,by simp⟩
 |(k,o)::r,nx,n,h=>by
  simp only[Ic,hV,Tc] at h
  obtain⟨⟨⟨h1,h2⟩,h3⟩,h4⟩:=h
  have:=RU h1
  subst this
  obtain⟨k1,k2⟩:=Ez h4
  refine⟨by omega,fun k' o' hm=>?_⟩
  rcases List.mem_cons.1 hm with e|hm
  ·cases e;exact⟨RX _,by omega,h2,h3⟩
  ·have:=k2 k' o' hm;exact⟨by omega,this.2.1,this.2.2⟩
theorem zQ {f:C→Option C} {E E':Env} {w w':World} (hf:∀c c' u,f c=some c'→cvC E w c u→cvC E' w' c' u) {a:Act}:∀{ts ts':List T} {args:List Operand},rr f ts=some ts'→ts.length=args.length→(∀x t,(x,t)∈args.zip ts→cvT E w t (a.eval x))→TV E' w' ts' (args.map a.eval)
 |[],ts',args,h,hl,hn=>by
  simp[rr] at h;subst h
  cases args with
  |nil=>trivial
  |cons _ _=>simp at hl
 |t::ts,ts',args,h,hl,hn=>by
  simp only[rr] at h
  split at h
  ·rename_i h1 h2
   simp at h;subst h
   cases args with
   |nil=>simp at hl
   |cons y args=>exact⟨vJ hf h1 (hn y t (by simp)),zQ hf h2 (by simpa using hl) (fun x t hm=>hn x t (by simp[hm]))⟩
  ·cases h
theorem FE {mi:List (Nat×Nat)} {ob:List (Nat×Ob)}:∀{m:List (Nat×Nat)} {xs:List (Nat×Ob)} {l:Nat} {x:Ob},vP mi ob m=some xs→go xs l=some x→∃o x0,cW m l=some o∧go ob o=some x0∧Bj (rlB ob mi) x0=some x
 |[],xs,l,x,h,hg=>by simp[vP] at h;subst h;cases hg
 |(k,o)::r,xs,l,x,h,hg=>by
  simp only[vP] at h
  split at h
  ·rename_i x0 h0
   split at h
   ·rename_i y ys h1 h2
    simp at h;subst h
    by_cases e:k=l
    ·subst e;rw[b8] at hg;cases hg;exact⟨o,x0,by simp[cW],h0,h1⟩
    ·rw[bu _ _ e] at hg
     obtain⟨o',x',a1,a2,a3⟩:=FE h2 hg
     exact⟨o',x',by simp only[cW,pB e];exact a1,a2,a3⟩
   ·cases h
  ·cases h
theorem B3 {mi:List (Nat×Nat)} {ob:List (Nat×Ob)}:∀{m:List (Nat×Nat)} {xs:List (Nat×Ob)} {k o:Nat},vP mi ob m=some xs→(k,o)∈m→∃x0 x,go ob o=some x0∧Bj (rlB ob mi) x0=some x
 |(k',o')::r,xs,k,o,h,hm=>by
  simp only[vP] at h
  split at h
  ·rename_i x0 h0
   split at h
   ·rename_i y ys h1 h2
    rcases List.mem_cons.1 hm with e|hm
    ·cases e;exact⟨x0,y,h0,h1⟩
    ·exact B3 h2 hm
   ·cases h
  ·cases h
theorem z8 {m:List (Nat×Nat)} (hinj:∀a a' b,cW m a=some b→cW m a'=some b→a=a'):∀{ys ys':List (Nat×Ob)} {o:Nat} {y':Ob},ry m ys=some ys'→go ys' o=some y'→∃k y,cW m k=some o∧go ys k=some y∧Bj (rlC m) y=some y'
 |[],ys',o,y',h,hg=>by simp[ry] at h;subst h;cases hg
 |(k,x)::r,ys',o,y',h,hg=>by
  simp only[ry] at h
  split at h
  ·rename_i o1 y1 ys1 h1 h2 h3
   simp at h;subst h
   by_cases e:o1=o
   ·subst e;rw[b8] at hg;cases hg;exact⟨k,x,h1,b8 _ _ _,h2⟩
   ·rw[bu _ _ e] at hg
    obtain⟨k',y,a1,a2,a3⟩:=z8 hinj h3 hg
    have hne:k≠k':=fun e'=>by subst e';rw[h1] at a1;cases a1;exact e rfl
    exact⟨k',y,a1,by rw[bu _ _ hne];exact a2,a3⟩
  ·cases h
theorem L7 {a b:List (Nat×Ob)} {o:Nat} {x:Ob} (h:go (a++b) o=some x):go a o=some x∨(go a o=none∧go b o=some x):=by
 induction a with
 |nil=>exact .inr ⟨rfl,h⟩
 |cons p r ih=>
  obtain⟨k,v⟩:=p
  by_cases e:k=o
  ·subst e;rw[Sm,b8] at h;rw[b8];exact .inl h
  ·rw[Sm,bu _ _ e] at h;rw[bu _ _ e];exact ih h
theorem Aa {m:List (Nat×Nat)}:∀{ys ys':List (Nat×Ob)} {k:Nat} {y:Ob},ry m ys=some ys'→go ys k=some y→∃o,cW m k=some o∧go ys' o≠none
 |(k',x)::r,ys',k,y,h,hg=>by
  simp only[ry] at h
  split at h
  ·rename_i o1 y1 ys1 h1 h2 h3
   simp at h;subst h
   by_cases e:k'=k
   ·subst e;exact⟨o1,h1,by rw[b8];simp⟩
   ·rw[bu _ _ e] at hg
    obtain⟨o,a1,a2⟩:=Aa h3 hg
    refine⟨o,a1,?_⟩
    by_cases e2:o1=o
    ·subst e2;rw[b8];simp
    ·rw[bu _ _ e2];exact a2
  ·cases h
theorem vX {E E':Env} {w:World} {f:C→Option C} {l o:Nat} {x y:Ob} (h:Bj f x=some y) (hf:∀c c' u,f c=some c'→cvC E w c u→cvC E' w c' u) (hr:∀b c,¬(E.n l∧∃t sz els g,x= .rown t sz els g)→E.r l=some (b,c)→E'.r o=some (b,c)) (hn:E'.n o↔E.n l)
 (hH:∀g b,E.H g b→E'.H g b) (hF:∀b c,¬(E.n l∧∃t sz els g,x= .rown t sz els g)→E.r l=some (b,c)→¬E.F b→¬E'.F b) (hx:co E w l x):co E' w o y:=by
 cases x with
 |var t cs=>
  simp only[Bj] at h
  split at h
  ·rename_i h1;cases h
   obtain⟨b,c,arr,k1,k2,k3,k4⟩:=hx
   have hno:¬(E.n l∧∃t' sz els g,Ob.var t cs= .rown t' sz els g):=fun⟨_,_,_,_,_,h⟩=>by cases h
   exact⟨b,c,arr,hr b c hno k1,k2,pY hf h1 k3,hF b c hno k1 k4⟩
  ·cases h
 |row t sz els g mm=>
  cases mm with
  |false=>cases h
  |true=>
   cases h
   obtain⟨b,c,arr,k1,k2,k3,k4,k5,k6,k7,k8,_⟩:=hx
   have hno:¬(E.n l∧∃t' sz' els' g',Ob.row t sz els g true= .rown t' sz' els' g'):=fun⟨_,_,_,_,_,h⟩=>by cases h
   exact⟨b,c,arr,hr b c hno k1,k2,k3,k4,k5,k6,cd (fun _ _=>rfl) (hH g) rfl _ _ k7,fun _=>hF b c hno k1 (k8 rfl),fun h=>by cases h⟩
 |rown t sz els g=>
  cases h
  rcases hx with⟨h1,h2⟩|⟨h1,b,c,arr,k1,k2,k3,k4,k5,k6,k7,k8⟩
  ·exact .inl ⟨hn.2 h1,h2⟩
  ·exact .inr ⟨fun k=>h1 (hn.1 k),b,c,arr,hr b c (fun k=>h1 k.1) k1,k2,k3,k4,k5,k6,cd (fun _ _=>rfl) (hH g) rfl _ _ k7,hF b c (fun k=>h1 k.1) k1 k8⟩
 |abs j z=>cases h
def ltF (n:Nat) (f:C→Option C) (c:C):Option C:=bif c.lt n then f c else some .any
theorem Fk {n:Nat} {f:C→Option C}:∀{cs:List C},cs.all (C.lt n)=true→lV (ltF n f) cs=lV f cs
 |[],_=>rfl
 |c::cs,h=>by
  simp only[Su,hV] at h
  simp only[lV,Fk h.2,ltF,h.1,cond_true]
theorem IN {n:Nat} {f:C→Option C} {v:V} (h:v.lt n=true):Dc (ltF n f) v=Dc f v:=by
 cases v with
 |c c=>have h:c.lt n=true:=h;simp only[Dc,ltF,h,cond_true]
 |agg cs=>simp only[Dc,Fk (n:=n) (cs:=cs) h]
theorem Fl {n:Nat} {f:C→Option C}:∀{cs:List V},cs.all (V.lt n)=true→xO (ltF n f) cs=xO f cs
 |[],_=>rfl
 |c::cs,h=>by
  simp only[Su,hV] at h
  simp only[xO,Fl h.2,IN h.1]
theorem OU {n:Nat} {f:C→Option C} {t:T} (h:t.lt n=true):vI (ltF n f) t=vI f t:=by
 cases t with
 |v v=>simp only[vI,IN (n:=n) (v:=v) h]
 |tup vs=>simp only[vI,Fl (n:=n) (cs:=vs) h]
 |any=>rfl
theorem IM {n:Nat} {f:C→Option C}:∀{sl:List (Nat×T)},Bv n sl=true→xb (ltF n f) sl=xb f sl
 |[],_=>rfl
 |(k,t)::r,h=>by
  simp only[Bv,hV] at h
  simp only[xb,OU h.1,IM h.2]
open Classical in
theorem IZ {up:Bool} {P:Program} {N:Nat} {d:Tmp} {ty:TypeId} {ps:String} {af:Array Edge} {gd:Option (Nat×Bool)} {f:FuncId} {args:List Operand} {tys:Array TypeId} {sl sl':List (Nat×T)} {ob ob':List (Nat×Ob)} {nx n:Nat} {ts ts':List T} {xs ys ys' nw nw':List (Nat×Ob)} {out out':T} {m nl:List (Nat×Nat)}
 (hF:FnV P f xs ts' ys out nw) (ht:xf sl args=some ts) (ha:rr (agC up ob (inv m)) ts=some ts') (hx:vP (inv m) ob m=some xs) (hm:mOK m nl nx n ys=true) (hs:xb (kvC (inv m)) sl=some sl') (hb:uL (kvC (inv m)) (fun _ x=>some x) ob=some ob')
 (hy:ry (m++nl) ys=some ys') (hw:ry (m++nl) nw=some nw') (ho:vI (rlC (m++nl)) out=some out') (hsl:Bv nx sl=true) (hol:xP nx ob=true) (hN:nlt d N=true):
 AWO P N ⟨some d,.call ⟨.value (.func f),args.toArray,tys⟩,ty,ps,af,gd⟩ ⟨sl,ob,nx⟩ ⟨(d,out')::sl',nw'++(ys'++ob'),n⟩:=by
 intro cx E a w hR
 have ok:=hR.ok
 obtain⟨t1,t2⟩:=oL ht
 simp only[mOK,hV,List.all_eq_true,Bool.or_eq_true,Tc] at hm
 obtain⟨⟨⟨hk1,hk2⟩,hm1,hc⟩,hu,hm2⟩:=hm
 have nd1:=ig hk1
 have nd2:=ig hk2
 obtain⟨hnn,hcu⟩:=Ez hc
 have ndm1:(m.map (·.1)).Nodup:=by rw[TJ] at nd1;exact(List.nodup_append.1 nd1).1
 have ndm2:(m.map (·.2)).Nodup:=by rw[TJ] at nd2;exact(List.nodup_append.1 nd2).1
 have inv_of:∀{k o},cW m k=some o→cW (inv m) o=some k:=fun h=>gF (by rw[sr];exact ndm2) (mV.2 (dF h))
 have of_inv:∀{k o},cW (inv m) o=some k→cW m k=some o:=fun h=>gF ndm1 (mV.1 (dF h))
 have inv_of':∀{k o},cW (m++nl) k=some o→cW (inv (m++nl)) o=some k:=fun h=>gF (by rw[sr];exact nd2) (mV.2 (dF h))
 have of_inv':∀{k o},cW (inv (m++nl)) o=some k→cW (m++nl) k=some o:=fun h=>gF nd1 (mV.1 (dF h))
 have look_m:∀{k o},cW m k=some o→cW (m++nl) k=some o:=fun h=>gF nd1 (List.mem_append.2 (.inl (dF h)))
 have split:∀{k o},cW (m++nl) k=some o→cW m k=some o∨(k,o)∈nl:=fun h=>(List.mem_append.1 (dF h)).imp (gF ndm1) id
 have linj:∀a a' b,cW m a=some b→cW m a'=some b→a=a':=fun a a' b h h'=>by have h:=inv_of h;have h':=inv_of h';rw[h] at h';cases h';rfl
 have linj':∀a a' b,cW (m++nl) a=some b→cW (m++nl) a'=some b→a=a':=fun a a' b h h'=>by have h:=inv_of' h;have h':=inv_of' h';rw[h] at h';cases h';rfl
 have mrs:∀{k o},cW m k=some o→rsv k=true∧o<nx:=fun h=>⟨(hm1 _ (dF h)).1,cF (hm1 _ (dF h)).2⟩
 have pick:∀{k o},cW m k=some o→∃x0 x,go ob o=some x0∧Bj (rlB ob (inv m)) x0=some x:=fun h=>B3 hx (dF h)
 let nilL:Nat→Prop:=fun o=>E.n o∧∃t sz els g,go ob o=some (.rown t sz els g)
 let Ec:Env:={r:=fun l=>match cW m l with|some o=>if nilL o then none else E.r o|none=>none,F:=E.F,G:=E.G,n:=fun l=>∃o,cW m l=some o∧E.n o}
 have hEc:∀l p,Ec.r l=some p→∃o,cW m l=some o∧¬nilL o∧E.r o=some p:=by
  intro l p h
  have h:(match cW m l with|some o=>if nilL o then none else E.r o|none=>none)=some p:=h
  split at h
  ·rename_i o h1
   split at h
   ·cases h
   ·exact⟨o,h1,by assumption,h⟩
  ·cases h
 have hEc2:∀{l o p},cW m l=some o→¬nilL o→E.r o=some p→Ec.r l=some p:=by
  intro l o p h1 h2 h3
  show(match cW m l with|some o=>if nilL o then none else E.r o|none=>none)=some p
  rw[h1];simp only[h2,if_false];exact h3
 have hEn:∀{l o},cW m l=some o→(Ec.n l↔E.n o):=fun h=>⟨fun⟨o',h1,h2⟩=>by rw[h] at h1;cases h1;exact h2,fun h2=>⟨_,h,h2⟩⟩
 have nF:∀{l o b c},cW m l=some o→¬nilL o→E.r o=some (b,c)→¬E.F b:=by
  intro l o b c h1 h2 h3
  obtain⟨x0,x,a1,a2⟩:=pick h1
  have hx0:=hR.obs o x0 a1
  cases x0 with
  |var t cs=>obtain⟨b',c',arr,k1,k2,k3,k4⟩:=hx0;rw[h3] at k1;cases k1;exact k4
  |row t sz els g mm=>
   cases mm with
   |false=>cases a2
   |true=>obtain⟨b',c',arr,k1,k2,k3,k4,k5,k6,k7,k8,_⟩:=hx0;rw[h3] at k1;cases k1;exact k8 rfl
  |rown t sz els g=>
   rcases hx0 with⟨k0,_⟩|⟨_,b',c',arr,k1,k2,k3,k4,k5,k6,k7,k8⟩
   ·exact absurd ⟨k0,_,_,_,_,a1⟩ h2
   ·rw[h3] at k1;cases k1;exact k8
  |abs j z=>cases a2
 have hVI:VIn Ec w:=⟨ok.fb,ok.gf,fun l b c h=>by
  obtain⟨o,h1,h2,h3⟩:=hEc l _ h
  exact⟨(ok.rb o b c h3).1,(mrs h1).1,nF h1 h2 h3⟩,fun l l' b c c' h h'=>by
  obtain⟨o,h1,h2,h3⟩:=hEc l _ h
  obtain⟨o',h1',h2',h3'⟩:=hEc l' _ h'
  have:=ok.inj _ _ _ _ _ h3 h3'
  subst this
  exact linj _ _ _ h1 h1',fun _ _ h=>h,fun _ h=>h⟩
 have hcB:∀c c' u,rlB ob (inv m) c=some c'→cvC E w c u→cvC Ec w c' u:=by
  intro c c' u h hc
  cases c with
  |w l n=>
   simp only[rlB] at h
   split at h
   ·rename_i k _ _ _ _ _ h1 h2;cases h
    obtain⟨b,c,h3,h4⟩:=hc
    exact⟨b,c,hEc2 (of_inv h1) (fun⟨_,_,_,_,_,h⟩=>by rw[h2] at h;cases h) h3,h4⟩
   ·cases h
  |wn l n=>
   simp only[rlB] at h
   split at h
   ·rename_i k _ _ _ _ h1 h2;cases h
    rcases hc with⟨h3,h4⟩|⟨h3,b,c,h4,h5⟩
    ·exact .inl ⟨(hEn (of_inv h1)).2 h3,h4⟩
    ·exact .inr ⟨fun h=>h3 ((hEn (of_inv h1)).1 h),b,c,hEc2 (of_inv h1) (fun h=>h3 h.1) h4,h5⟩
   ·cases h
  |p l n=>
   simp only[rlB] at h
   split at h
   ·rename_i k _ _ h1 h2;cases h
    obtain⟨b,c,h3,h4⟩:=hc
    exact⟨b,c,hEc2 (of_inv h1) (fun⟨_,_,_,_,_,h⟩=>by rw[h2] at h;cases h) h3,h4⟩
   ·cases h
  |d g x=>simp only[rlB] at h;cases h;cases g<;>exact hc
  |nil=>simp only[rlB] at h;cases h;exact hc
  |any=>simp only[rlB] at h;cases h;trivial
  |fn f=>simp only[rlB] at h;cases h;exact hc
  |_=>simp only[rlB] at h;cases h
 have hcA:∀c c' u,agC up ob (inv m) c=some c'→cvC E w c u→cvC Ec w c' u:=by
  intro c c' u h hc
  cases c with
  |d g x=>simp only[agC] at h;cases h;exact ci (fun _ _=>rfl) (fun b hb=>by cases g<;>cases up<;>first|exact hb|exact ok.gf b hb) x u hc
  |nil=>simp only[agC] at h;cases h;exact⟨none,0,hc,RX _,.inl rfl⟩
  |_=>simp only[agC] at h;exact hcB _ _ _ h hc
 have hX:∀l x,go xs l=some x→co Ec w l x:=by
  intro l x h
  obtain⟨o,x0,a1,a2,a3⟩:=FE hx h
  exact vX a3 hcB (fun b c h1 h2=>hEc2 a1 (fun⟨k1,t,sz,els,g,k2⟩=>h1 ⟨k1,t,sz,els,g,by rw[a2] at k2;cases k2;rfl⟩) h2) (hEn a1) (fun g b h=>by cases g<;>exact h) (fun b c h1 h2 h3=>h3) (hR.obs o x0 a2)
 have hA:=zQ (a:=a) hcA ha t1 (fun x t hm=>by have:=hR.op x;rwa [Lk.mem t2 x t hm] at this)
 have hc:=hF.calls Ec w (args.map a.eval).toArray hVI ok.tabs (fun k hk l c h=>by
  obtain⟨o,_,_,h3⟩:=hEc l _ h;exact ok.ntab h3 k hk rfl) hX (by simpa using hA)
 have hent:=hF.enters (args.map a.eval).toArray w
 unfold Oper.wp
 have hrun:(execOp a.eval ⟨some d,.call ⟨.value (.func f),args.toArray,tys⟩,ty,ps,af,gd⟩).run P w= .ok (.enter f (args.map a.eval).toArray) w:=by
  simp only[execOp,resolve,Act.eval,Deferred.ofValue,Sem.run_bind,Sem.run_pure,Result.andThen_ok,invoke]
  simpa using hent
 rw[hrun,Oper.upon_enter]
 refine hc.mono ?_
 rintro e w' ⟨v,E',rfl,vo,hv,hY,hNW⟩
 have hsz:=vo.past.size
 let E2:Env:={r:=fun l=>match cW (inv (m++nl)) l with|some k=>E'.r k|none=>E.r l,F:=E'.F,G:=E'.G,T:=E.T,Z:=E.Z,n:=fun l=>match cW (inv (m++nl)) l with|some k=>E'.n k|none=>E.n l}
 have e2r:∀{k o},cW (m++nl) k=some o→E2.r o=E'.r k:=fun h=>by show(match cW (inv (m++nl)) _ with|some k=>E'.r k|none=>E.r _)=_;rw[inv_of' h]
 have e2n:∀{k o},cW (m++nl) k=some o→(E2.n o↔E'.n k):=fun h=>by show(match cW (inv (m++nl)) _ with|some k=>E'.n k|none=>E.n _)↔_;rw[inv_of' h]
 have e2r0:∀{o},cW (inv (m++nl)) o=none→E2.r o=E.r o:=fun h=>by show(match cW (inv (m++nl)) _ with|some k=>E'.r k|none=>E.r _)=_;rw[h]
 have e2n0:∀{o},cW (inv (m++nl)) o=none→(E2.n o↔E.n o):=fun h=>by show(match cW (inv (m++nl)) _ with|some k=>E'.n k|none=>E.n _)↔_;rw[h]
 have e2c:∀l b c,E2.r l=some (b,c)→(∃k,cW (m++nl) k=some l∧E'.r k=some (b,c))∨(cW (inv (m++nl)) l=none∧E.r l=some (b,c)):=by
  intro l b c h
  cases h1:cW (inv (m++nl)) l with
  |some k=>exact .inl ⟨k,of_inv' h1,by rw[←e2r (of_inv' h1)];exact h⟩
  |none=>exact .inr ⟨rfl,by rw[←e2r0 h1];exact h⟩
 have oldB:∀{k b c},E'.r k=some (b,c)→w.heap.size≤b∨∃l o c',cW m l=some o∧¬nilL o∧E.r o=some (b,c')∧rsv k=true:=by
  intro k b c h
  rcases(vo.rb k b c h).2 with h|⟨⟨l,c',h⟩,h2⟩
  ·exact .inl h
  ·obtain⟨o,h3,h4,h5⟩:=hEc l _ h;exact .inr ⟨l,o,c',h3,h4,h5,h2⟩
 have none_of:∀{o},(∀k,cW m k≠some o)→o<nx→cW (inv (m++nl)) o=none:=by
  intro o h1 h2
  cases h:cW (inv (m++nl)) o with
  |none=>rfl
  |some k=>
   rcases split (of_inv' h) with h3|h3
   ·exact absurd h3 (h1 k)
   ·have:=(hcu _ _ h3).1;omega
 have hnot:∀{o},cW (inv (m++nl)) o=none→∀k,cW m k≠some o:=fun h k h1=>by rw[inv_of' (look_m h1)] at h;cases h
 have hheap:∀k,k<w.heap.size→(∀l o c,cW m l=some o→¬nilL o→E.r o≠some (k,c))→w'.heap[k]?=w.heap[k]?:=fun k hk h=>vo.past.block k hk (fun⟨l,c,h1⟩=>by
  obtain⟨o,h2,h3,h4⟩:=hEc l _ h1;exact h l o c h2 h3 h4)
 have hFh:∀b,E.F b→w'.heap[b]?=w.heap[b]?:=fun b hb=>hheap b (ok.fb b hb) (fun l o c h1 h2 h3=>nF h1 h2 h3 hb)
 have hHh:∀g b,E.H g b→w'.heap[b]?=w.heap[b]?:=fun g b hb=>hFh b (by cases g;exact hb;exact ok.gf b hb)
 have hTh:∀l b,E.T l b→w'.heap[b]?=w.heap[b]?:=fun l b hb=>hheap b (ok.sf.tb l b hb).1.1 (fun _ o c _ _ h=>(ok.sf.tb l b hb).2.2.1 o c h)
 have hZh:∀b,cx.Z b→w'.heap[b]?=w.heap[b]?:=fun b hb=>hheap b (ok.sf.zc b hb).1.2.1 (fun _ o c _ _ h=>(ok.sf.zc b hb).2.2.1 o c h)
 have okE:cK cx E2 w':=by
  refine⟨vo.fb,vo.gf,fun b h=>?_,fun l b c h=>?_,fun l l' b c c' h h'=>?_,by rw[vo.past.os];exact ok.os,by rw[vo.past.tape];exact ok.tape,by rw[vo.past.output];exact ok.output,T9 ok.size hsz,fun b h hW=>?_,fun l x hv h=>?_,fun b h=>?_,fun b h h'=>?_,⟨fun l b h=>?_,ok.sf.tt,fun b h=>?_,fun b h=>?_,ok.sf.ze⟩⟩
  ·rcases vo.g0 b h with h|h
   ·exact .inl (T9 ok.size h)
   ·exact ok.gn b h
  ·rcases e2c l b c h with⟨k,h1,h2⟩|⟨h1,h2⟩
   ·refine⟨(vo.rb k b c h2).1,?_⟩
    rcases oldB h2 with h3|⟨l',o',c',h3,h4,h5,h6⟩
    ·exact .inl (T9 ok.size h3)
    ·rcases split h1 with h7|h7
     ·rcases(ok.rb o' b c' h5).2 with h8|⟨h8,h9⟩
      ·exact .inl h8
      ·refine .inr ⟨h8,?_⟩
       cases hp:rsp k with
       |true=>
        have h10:=vo.pin k _ hp h2
        obtain⟨o2,h11,_,h13⟩:=hEc k _ h10
        rw[h7] at h11;cases h11
        have:=ok.inj _ _ _ _ _ h13 h5
        rw[this];exact h9
       |false=>
        rcases hu with hu|hu
        ·rcases hu _ (dF h7) with h10|h10
         ·simp only at h10;rw[hp] at h10;cases h10
         ·exact h10
        ·rcases hu _ (dF h3) with h10|h10
         ·have h11:rsp l'=true:=h10
          have h12:=inv_of h3
          exfalso
          have hy2:(go ys l').isSome=true:=(hm2 _ (dF h3)).2.2
          have hv2:Mb ys l'=true:=((hm2 _ (dF h3)).2.1).resolve_left (by simp[h11])
          unfold Mb at hv2
          split at hv2
          ·rename_i t cs hg
           obtain⟨b1,c1,arr,q1,_⟩:=hY _ _ hg
           have q2:=vo.pin l' _ h11 q1
           obtain⟨o2,q3,_,q4⟩:=hEc l' _ q2
           rw[h3] at q3;cases q3
           rw[h5] at q4;cases q4
           have:=vo.inj _ _ _ _ _ q1 h2
           subst this
           rw[h11] at hp;cases hp
          ·cases hv2
         ·simp only at h10;rw[h9] at h10;cases h10
     ·exfalso
      have:=(hcu _ _ h7).2.2.2
      rw[this] at h6;cases h6
   ·have:=ok.rb l b c h2;exact⟨SZ this.1 hsz,this.2⟩
  ·rcases e2c l b c h with⟨k,h1,h2⟩|⟨h1,h2⟩<;>rcases e2c l' b c' h' with⟨k',h1',h2'⟩|⟨h1',h2'⟩
   ·have:=vo.inj _ _ _ _ _ h2 h2'
    subst this
    rw[h1] at h1';cases h1';rfl
   ·exfalso
    rcases oldB h2 with h3|⟨l2,o2,c2,h3,h4,h5,_⟩
    ·have:=(ok.rb _ _ _ h2').1;omega
    ·have:=ok.inj _ _ _ _ _ h5 h2'
     subst this
     exact hnot h1' _ h3
   ·exfalso
    rcases oldB h2' with h3|⟨l2,o2,c2,h3,h4,h5,_⟩
    ·have:=(ok.rb _ _ _ h2).1;omega
    ·have:=ok.inj _ _ _ _ _ h5 h2
     subst this
     exact hnot h1 _ h3
   ·exact ok.inj _ _ _ _ _ h2 h2'
  ·rw[hheap b (SZ h ok.size) (fun l o c h1 h2 h3=>by
    rcases(ok.rb o b c h3).2 with h4|h4
    ·omega
    ·exact hW h4.1)]
   exact ok.block b h hW
  ·obtain⟨b,c⟩:=x
   rcases e2c l b c h with⟨k,h1,h2⟩|⟨_,h2⟩
   ·rcases split h1 with h7|h7
    ·have hk:rsp k=true:=((hm2 _ (dF h7)).1).resolve_left (by simp[hv])
     obtain⟨o2,q3,_,q4⟩:=hEc k _ (vo.pin k _ hk h2)
     rw[h7] at q3;cases q3
     exact ok.pin l _ hv q4
    ·have:=(hcu _ _ h7).2.2.1
     have h9:=Dz hv
     rw[this] at h9;cases h9
   ·exact ok.pin l _ hv h2
  ·rcases vo.f0 b h with h|h
   ·exact ok.ff b h
   ·exact .inr (T9 ok.size h.1)
  ·rcases vo.f0 b h with h|h
   ·exact(ok.gc b h h').of_eq (hFh b h)
   ·exact h.2
  ·obtain⟨k1,k2,k3,k4⟩:=ok.sf.tb l b h
   refine⟨⟨by omega,k1.2⟩,fun hf=>?_,fun o c ho=>?_,k4.of_eq (hTh l b h)⟩
   ·rcases vo.f0 b hf with hf|hf
    ·exact k2 hf
    ·omega
   ·rcases e2c o b c ho with⟨k,_,h2⟩|⟨_,h2⟩
    ·rcases oldB h2 with h3|⟨l2,o2,c2,h3,h4,h5,_⟩
     ·omega
     ·exact k3 _ _ h5
    ·exact k3 _ _ h2
  ·obtain⟨k1,k2,k3,k4⟩:=ok.sf.zc b h
   refine⟨⟨k1.1,by omega,k1.2.2⟩,fun hf=>?_,fun o c ho=>?_,k4.of_eq (hZh b h)⟩
   ·rcases vo.f0 b hf with hf|hf
    ·exact k2 hf
    ·omega
   ·rcases e2c o b c ho with⟨k,_,h2⟩|⟨_,h2⟩
    ·rcases oldB h2 with h3|⟨l2,o2,c2,h3,h4,h5,_⟩
     ·omega
     ·exact k3 _ _ h5
    ·exact k3 _ _ h2
  ·exact(ok.sf.zs b h).trans (.of_eq (hZh b h))
 have hHm:∀g b,E.H g b→E2.H g b:=fun g b h=>by cases g;exact vo.F b h;exact vo.G b h
 have hkv:∀c c' u,c.lt nx=true→kvC (inv m) c=some c'→cvC E w c u→cvC E2 w' c' u:=by
  intro c c' u hl h hc
  have hnone:∀{l},cW (inv m) l=none→l<nx→cW (inv (m++nl)) l=none:=fun h1 h2=>none_of (fun k h3=>by rw[inv_of h3] at h1;cases h1) h2
  cases c with
  |d g x=>simp only[kvC] at h;cases h;exact ci (hHh g) (hHm g) x u hc
  |w l n=>
   simp only[kvC] at h
   split at h
   ·cases h;trivial
   ·rename_i h1;cases h
    obtain⟨b,c,h3,h4⟩:=hc
    exact⟨b,c,by rw[e2r0 (hnone h1 (cF hl))];exact h3,h4⟩
  |wn l n=>
   simp only[kvC] at h
   split at h
   ·cases h;trivial
   ·rename_i h1;cases h
    have h2:=hnone h1 (cF hl)
    rcases hc with⟨h3,h4⟩|⟨h3,b,c,h4,h5⟩
    ·exact .inl ⟨(e2n0 h2).2 h3,h4⟩
    ·exact .inr ⟨fun h=>h3 ((e2n0 h2).1 h),b,c,by rw[e2r0 h2];exact h4,h5⟩
  |s l a1 a2 a3=>
   simp only[kvC] at h
   split at h
   ·cases h;trivial
   ·rename_i h1;cases h
    obtain⟨A,c,b,k,h3,h4⟩:=hc
    exact⟨A,c,b,k,by rw[e2r0 (hnone h1 (cF hl))];exact h3,h4⟩
  |e l a1 a2 a3=>
   simp only[kvC] at h
   split at h
   ·cases h;trivial
   ·rename_i h1;cases h
    obtain⟨b,c,h3,h4⟩:=hc
    exact⟨b,c,by rw[e2r0 (hnone h1 (cF hl))];exact h3,h4⟩
  |p l j=>
   simp only[kvC] at h
   split at h
   ·rename_i k h1
    split at h
    ·rename_i hp
     cases h
     obtain⟨b,c,h3,h4⟩:=hc
     have h5:=of_inv h1
     have hv2:Mb ys k=true:=((hm2 _ (dF h5)).2.1).resolve_left (by simp[hp])
     unfold Mb at hv2
     split at hv2
     ·rename_i t cs hg
      obtain⟨b1,c1,arr,q1,_⟩:=hY _ _ hg
      obtain⟨o2,q3,_,q4⟩:=hEc k _ (vo.pin k _ hp q1)
      rw[h5] at q3;cases q3
      rw[h3] at q4;cases q4
      exact⟨b,c,by rw[e2r (look_m h5)];exact q1,h4⟩
     ·cases hv2
    ·cases h;trivial
   ·rename_i h1;cases h
    obtain⟨b,c,h3,h4⟩:=hc
    exact⟨b,c,by rw[e2r0 (hnone h1 (cF hl))];exact h3,h4⟩
  |q g y j=>
   simp only[kvC] at h;cases h
   obtain⟨b,k,h1,h2,h3⟩:=hc
   exact⟨b,k,h1,hHm g b h2,rdL_mono (hHh g) (hHm g) y b k h2 h3⟩
  |fn f=>simp only[kvC] at h;cases h;exact hc
  |nil=>simp only[kvC] at h;cases h;exact hc
  |any=>simp only[kvC] at h;cases h;trivial
  |r l x=>simp only[kvC] at h;cases h;exact ci (fun b hb=>hTh l b hb) (fun b hb=>hb) x u hc
  |z x=>simp only[kvC] at h;cases h;exact p8 (fun b hb=>.of_eq (hZh b (ok.sf.ze b hb))) (fun b hb=>hb) x u hc
  |zq x j=>
   simp only[kvC] at h;cases h
   obtain⟨b,k,h1,h2,h3⟩:=hc
   exact⟨b,k,h1,h2,rsL_mono (fun b hb=>.of_eq (hZh b (ok.sf.ze b hb))) (fun b hb=>hb) x b k h2 h3⟩
 have hrl:∀c c' u,rlC (m++nl) c=some c'→cvC E' w' c u→cvC E2 w' c' u:=by
  intro c c' u h hc
  cases c with
  |w l n=>
   simp only[rlC] at h
   split at h
   ·rename_i k h1;cases h
    obtain⟨b,c,h3,h4⟩:=hc
    exact⟨b,c,by rw[e2r h1];exact h3,h4⟩
   ·cases h
  |wn l n=>
   simp only[rlC] at h
   split at h
   ·rename_i k h1;cases h
    rcases hc with⟨h3,h4⟩|⟨h3,b,c,h4,h5⟩
    ·exact .inl ⟨(e2n h1).2 h3,h4⟩
    ·exact .inr ⟨fun h=>h3 ((e2n h1).1 h),b,c,by rw[e2r h1];exact h4,h5⟩
   ·cases h
  |p l n=>
   simp only[rlC] at h
   split at h
   ·rename_i k h1;cases h
    obtain⟨b,c,h3,h4⟩:=hc
    exact⟨b,c,by rw[e2r h1];exact h3,h4⟩
   ·cases h
  |d g x=>simp only[rlC] at h;cases h;cases g<;>exact hc
  |nil=>simp only[rlC] at h;cases h;exact hc
  |any=>simp only[rlC] at h;cases h;trivial
  |fn f=>simp only[rlC] at h;cases h;exact hc
  |_=>simp only[rlC] at h;cases h
 have hrel:∀{k o:Nat} {y y':Ob},cW (m++nl) k=some o→Bj (rlC (m++nl)) y=some y'→co E' w' k y→co E2 w' o y':=fun h1 h2 h3=>
  vX h2 hrl (fun b c _ h=>by rw[e2r h1];exact h) (e2n h1) (fun g b h=>by cases g<;>exact h) (fun b c _ _ h=>h) h3
 refine⟨E2,okE,fun l x h=>?_,fun l y hl=>?_,fun k=>?_,hR.dfr,by simpa [Act.put] using hR.size,fun l b h=>SZ (hR.td l b h) hnn⟩
 ·obtain⟨b,c⟩:=x
  rcases e2c l b c h with⟨k,h1,_⟩|⟨_,h2⟩
  ·rcases split h1 with h3|h3
   ·exact SZ (mrs h3).2 hnn
   ·exact(hcu _ _ h3).2.1
  ·exact SZ (hR.dom l _ h2) hnn
 ·rcases L7 hl with h|⟨_,h⟩
  ·obtain⟨k,y0,h1,h2,h3⟩:=z8 linj' hw h
   exact hrel h1 h3 (hNW _ _ h2)
  ·rcases L7 h with h|⟨h0,h⟩
   ·obtain⟨k,y0,h1,h2,h3⟩:=z8 linj' hy h
    exact hrel h1 h3 (hY _ _ h2)
   ·
     have hnm:∀k,cW m k≠some l:=fun k h1=>by
      have h2:=(hm2 _ (dF h1)).2.2
      cases h3:go ys k with
      |none=>rw[h3] at h2;cases h2
      |some y0=>
       obtain⟨o,h4,h5⟩:=Aa hy h3
       rw[look_m h1] at h4;cases h4
       exact h5 h0
     have hno:∀b c,E.r l=some (b,c)→w'.heap[b]?=w.heap[b]?:=fun b c hr=>hheap b (ok.rb l b c hr).1 (fun l' o' c' h1 _ h3=>by
      have:=ok.inj _ _ _ _ _ hr h3
      subst this
      exact hnm _ h1)
     have hFn:∀b c,E.r l=some (b,c)→¬E.F b→¬E2.F b:=fun b c hr hn hf=>(vo.f0 b hf).elim hn (fun h=>by have:=(ok.rb l b c hr).1;omega)
     rcases qD hb h with⟨t,cs,cs',g1,g2,rfl⟩|⟨x0,g1,g2,g3⟩
     ·obtain⟨hln,hxl⟩:=sD hol g1
      have e1:=e2r0 (none_of hnm hln)
      obtain⟨b,c,arr,k1,k2,k3,k4⟩:=hR.obs l _ g1
      refine⟨b,c,arr,by rw[e1];exact k1,(hno b c k1).trans k2,?_,hFn b c k1 k4⟩
      have key:∀(cs cs':List C) (us:List Value),cs.all (C.lt nx)=true→lV (kvC (inv m)) cs=some cs'→CV E w cs us→CV E2 w' cs' us:=by
       intro cs
       induction cs with
       |nil=>intro cs' us _ h hc;simp[lV] at h;subst h;cases us with
        |nil=>trivial
        |cons _ _=>exact hc.elim
       |cons c cs ih=>
        intro cs' us hl h hc
        simp only[Su,hV] at hl
        cases us with
        |nil=>exact hc.elim
        |cons u us=>
         simp only[lV] at h
         split at h
         ·rename_i h1 h2;simp at h;subst h;exact⟨hkv _ _ _ hl.1 h1 hc.1,ih _ _ hl.2 h2 hc.2⟩
         ·cases h
      exact key _ _ _ hxl g2 k3
     ·cases g3
      obtain⟨hln,hxl⟩:=sD hol g1
      have e1:=e2r0 (none_of hnm hln)
      have e3:=e2n0 (none_of hnm hln)
      have hx0:=hR.obs l _ g1
      cases y with
      |var t cs=>exact absurd rfl (g2 t cs)
      |row t sz els g mm=>
       obtain⟨b,c,arr,k1,k2,k3,k4,k5,k6,k7,k8,k9⟩:=hx0
       exact⟨b,c,arr,by rw[e1];exact k1,(hno b c k1).trans k2,k3,k4,k5,k6,cd (hHh g) (hHm g) (hno b c k1) _ _ k7,fun hm=>hFn b c k1 (k8 hm),fun hm=>⟨hHm false b (k9 hm).1,fun hg=>hHm true b ((k9 hm).2 hg)⟩⟩
      |rown t sz els g=>
       rcases hx0 with⟨k1,k2⟩|⟨k0,b,c,arr,k1,k2,k3,k4,k5,k6,k7,k8⟩
       ·exact .inl ⟨e3.2 k1,k2⟩
       ·exact .inr ⟨fun h=>k0 (e3.1 h),b,c,arr,by rw[e1];exact k1,(hno b c k1).trans k2,k3,k4,k5,k6,cd (hHh g) (hHm g) (hno b c k1) _ _ k7,hFn b c k1 k8⟩
      |abs j z=>
       rcases hx0 with⟨k1,k2⟩|⟨k0,b,c,k1,k2,k3⟩
       ·exact .inl ⟨e3.2 k1,k2⟩
       ·exact .inr ⟨fun h=>k0 (e3.1 h),b,c,by rw[e1];exact k1,z.st _ _ _ _ _ _ k2 (fun k hk=>hk) (hno b c k1) (fun k hk=>hTh j k hk),hFn b c k1 k3⟩
 ·rw[f8 (by rw[hR.size];exact cF hN)]
  by_cases hdk:d=k
  ·subst hdk;rw[dJ,if_pos rfl];exact vJ hrl ho hv
  ·rw[cN _ _ hdk,if_neg hdk]
   rw[←IM hsl] at hs
   refine vH (fun c c' u h hc=>?_) hs (hR.sl k)
   unfold ltF at h
   cases hl:c.lt nx with
   |true=>rw[hl] at h;exact hkv c c' u hl h hc
   |false=>rw[hl] at h;cases h;trivial
theorem cwv {P:Program} {N:Nat} {d:Tmp} {ty:TypeId} {ps:String} {af:Array Edge} {gd:Option (Nat×Bool)} {f:FuncId} {args:List Operand} {tys:Array TypeId} {sl sl':List (Nat×T)} {ob ob' ob1 ob2:List (Nat×Ob)} {nx:Nat} {ts ts':List T} {xs ys ys' nw nw':List (Nat×Ob)} {out out':T} (m nl:List (Nat×Nat)) (n:Nat)
 (hF:FnV P f xs ts' ys out nw) (ht:xf sl args=some ts:=by exact rfl) (ha:rr (agC false ob (inv m)) ts=some ts':=by exact rfl) (hx:vP (inv m) ob m=some xs:=by exact rfl) (hm:mOK m nl nx n ys=true:=by exact rfl) (hs:xb (kvC (inv m)) sl=some sl':=by exact rfl) (hb:uL (kvC (inv m)) (fun _ x=>some x) ob=some ob':=by exact rfl)
 (hy:ry (m++nl) ys=some ys':=by exact rfl) (hw:ry (m++nl) nw=some nw':=by exact rfl) (ho:vI (rlC (m++nl)) out=some out':=by exact rfl) (hsl:Bv nx sl=true:=by exact rfl) (hol:xP nx ob=true:=by exact rfl) (hN:nlt d N=true:=by exact rfl) (h1:apO ys' ob'=some ob1:=by exact rfl) (h2:apO nw' ob1=some ob2:=by exact rfl):
 AWO P N ⟨some d,.call ⟨.value (.func f),args.toArray,tys⟩,ty,ps,af,gd⟩ ⟨sl,ob,nx⟩ ⟨(d,out')::sl',ob2,n⟩:=by
 rw[rP h2,rP h1]
 exact IZ hF ht ha hx hm hs hb hy hw ho hsl hol hN
theorem cwu {P:Program} {N:Nat} {d:Tmp} {ty:TypeId} {ps:String} {af:Array Edge} {gd:Option (Nat×Bool)} {f:FuncId} {args:List Operand} {tys:Array TypeId} {sl sl':List (Nat×T)} {ob ob' ob1 ob2:List (Nat×Ob)} {nx:Nat} {ts ts':List T} {xs ys ys' nw nw':List (Nat×Ob)} {out out':T} (m nl:List (Nat×Nat)) (n:Nat)
 (hF:FnV P f xs ts' ys out nw) (ht:xf sl args=some ts:=by exact rfl) (ha:rr (agC true ob (inv m)) ts=some ts':=by exact rfl) (hx:vP (inv m) ob m=some xs:=by exact rfl) (hm:mOK m nl nx n ys=true:=by exact rfl) (hs:xb (kvC (inv m)) sl=some sl':=by exact rfl) (hb:uL (kvC (inv m)) (fun _ x=>some x) ob=some ob':=by exact rfl)
 (hy:ry (m++nl) ys=some ys':=by exact rfl) (hw:ry (m++nl) nw=some nw':=by exact rfl) (ho:vI (rlC (m++nl)) out=some out':=by exact rfl) (hsl:Bv nx sl=true:=by exact rfl) (hol:xP nx ob=true:=by exact rfl) (hN:nlt d N=true:=by exact rfl) (h1:apO ys' ob'=some ob1:=by exact rfl) (h2:apO nw' ob1=some ob2:=by exact rfl):
 AWO P N ⟨some d,.call ⟨.value (.func f),args.toArray,tys⟩,ty,ps,af,gd⟩ ⟨sl,ob,nx⟩ ⟨(d,out')::sl',ob2,n⟩:=by
 rw[rP h2,rP h1]
 exact IZ hF ht ha hx hm hs hb hy hw ho hsl hol hN
end Go.AM
namespace Go.AM
open Go.RowKit
section
variable {P:Program} {d:Option Tmp} {ty:TypeId} {ps:String} {af:Array Edge} {gd:Option (Nat×Bool)} {x y z:Operand}
theorem Cn {E:Env} {w:World} {o b k l h c sz n:Nat} (hr:E.r o=some (b,k)) (h1:l≤h) (h2:h≤n) (hlc:n≤c):cvC E w (.s o sz l (h-l)) (sliced (some ⟨b,0,none⟩) l h c sz):=by
 refine⟨_,_,b,k,hr,rfl,by omega,?_⟩
 by_cases hlh:h=l
 ·left;omega
 ·right
  rw[if_neg (by omega)]
  simp[Addr.add]
  try exact fun h=>h.symm
theorem Ha {t e sz by_:Nat} {g2:Bool} {o n:Nat} {els:List (List D)} {g m:Bool} {rt:TypeId} {h:Int} {hi:Operand} [ht:TySl P t e sz by_] (hn:els.length=n) (h0:0≤h) (h2:h≤n):
 AWN P ⟨d,.slice t x none (some hi) none,ty,ps,af,gd⟩ [(x,.v (.c (.w o n))),(hi,.v (.c (.d g2 (.i .i64 h))))] [(o,.row rt sz els g m)] (.v (.c (.s o sz 0 h.toNat))) []:=
 bY fun E ac w hne hob=>by
  have k1:=hne x _ (.head _)
  have k3:=fY (hne hi _ (.tail _ (.head _)))
  obtain⟨b,c,hr,hu⟩:=k1
  obtain⟨b',c',arr,hr',_,_,hlc,_⟩:=hob o _ (.head _)
  rw[hr] at hr';cases hr'
  obtain⟨i,z,hi1,hi2,_⟩:=ht.i
  obtain⟨he,hu'⟩:=vx ht.u
  refine⟨sliced (some ⟨b,0,none⟩) 0 h.toNat c sz,?_,Cn (w:=w) (n:=n) hr (Ta _) (by omega) (by omega)⟩
  simp[execOp,hu,k3,run_sliceAt_slice w t _ _ _ _ hu',run_slice_h w t (some ⟨b,0,none⟩) n c hu' .i64 h h0 (by omega),he,eG hi1,hi2]
theorem Hb {t e sz by_:Nat} {g2:Bool} {o n:Nat} {els:List (List D)} {g m:Bool} {rt:TypeId} {l:Int} {lo:Operand} [ht:TySl P t e sz by_] (hn:els.length=n) (h0:0≤l) (h2:l≤n):
 AWN P ⟨d,.slice t x (some lo) none none,ty,ps,af,gd⟩ [(x,.v (.c (.w o n))),(lo,.v (.c (.d g2 (.i .i64 l))))] [(o,.row rt sz els g m)] (.v (.c (.s o sz l.toNat (n-l.toNat)))) []:=
 bY fun E ac w hne hob=>by
  have k1:=hne x _ (.head _)
  have k3:=fY (hne lo _ (.tail _ (.head _)))
  obtain⟨b,c,hr,hu⟩:=k1
  obtain⟨b',c',arr,hr',_,_,hlc,_⟩:=hob o _ (.head _)
  rw[hr] at hr';cases hr'
  obtain⟨i,z,hi1,hi2,_⟩:=ht.i
  obtain⟨he,hu'⟩:=vx ht.u
  refine⟨sliced (some ⟨b,0,none⟩) l.toNat n c sz,?_,Cn (w:=w) (n:=n) hr (by omega) (RX _) (by omega)⟩
  simp[execOp,hu,k3,run_sliceAt_slice w t _ _ _ _ hu',run_slice_l w t (some ⟨b,0,none⟩) n c hu' .i64 l h0 (by omega),he,eG hi1,hi2]
theorem G6 {t:TypeId} {e sz by_:Nat} {g:Bool} {kd:IntKind} {o n:Nat} {i:Int} [ht:TySl P t e sz by_] (h0:0≤i) (h1:i<n):
 AWN P ⟨d,.indexAddr t x y,ty,ps,af,gd⟩ [(x,.v (.c (.wn o n))),(y,.v (.c (.d g (.i kd i))))] [] (.v (.c (.e o sz i.toNat 0))) []:=by
 intro cx E a w ok hn hb hf
 have h2:cvT E w (.v (.c (.w o n))) (a.eval x):=by
  rcases hn x _ (.head _) with⟨_,h,_⟩|⟨_,h⟩
  ·omega
  ·exact h
 exact BX (P:=P) (d:=d) (ty:=ty) (ps:=ps) (af:=af) (gd:=gd) (g:=g) (kd:=kd) (t:=t) h0 h1 cx E a w ok (fun z u hm=>by
  simp at hm
  rcases hm with⟨rfl,rfl⟩|⟨rfl,rfl⟩
  ·exact h2
  ·exact hn _ _ (.tail _ (.head _))) (fun _ _ h=>by cases h) hf
theorem xR {E:Env} {w:World} {o:Nat} {rt:TypeId} {sz i:Nat} {els:List (List D)} {g:Bool} {el:List D} (he:els[i]?=some el) (h:co E w o (.rown rt sz els g)):co E w o (.row rt sz els g true):=by
 rcases h with⟨_,h⟩|⟨_,b,c,arr,k1,k2,k3,k4,k5,k6,k7,k8⟩
 ·subst h;simp at he
 ·exact⟨b,c,arr,k1,k2,k3,k4,k5,k6,k7,fun _=>k8,fun h=>by cases h⟩
theorem Ki {t:TypeId} {o sz i j:Nat} {rt:TypeId} {els:List (List D)} {g:Bool} {el:List D} {c:C} [ht:TySc P t] (he:els[i]?=some el) (hc:ld1 g j el=some c):
 AWN P ⟨d,.load t x,ty,ps,af,gd⟩ [(x,.v (.c (.e o sz i j)))] [(o,.rown rt sz els g)] (.v (.c c)) []:=by
 intro cx E a w ok hn hb hf
 exact BZ (P:=P) (m:=true) he hc cx E a w ok hn (fun l x h=>by simp at h;obtain⟨rfl,rfl⟩:=h;exact xR he (hb _ _ (.head _))) hf
theorem Bd {t:TypeId} {n:Nat} {o sz i j:Nat} {rt:TypeId} {els:List (List D)} {g:Bool} {el:List D} {cs:List C} [ht:TyAg P t n] (he:els[i]?=some el) (hj:C8 g j n el=some cs):
 AWN P ⟨d,.load t x,ty,ps,af,gd⟩ [(x,.v (.c (.e o sz i j)))] [(o,.rown rt sz els g)] (.v (.agg cs)) []:=by
 intro cx E a w ok hn hb hf
 exact uo (P:=P) (m:=true) he hj cx E a w ok hn (fun l x h=>by simp at h;obtain⟨rfl,rfl⟩:=h;exact xR he (hb _ _ (.head _))) hf
end
section
variable {P:Program} {N:Nat} {d:Tmp} {ty:TypeId} {ps:String} {af:Array Edge} {gd:Option (Nat×Bool)} {x y z:Operand} {sl:List (Nat×T)} {ob:List (Nat×Ob)} {nx:Nat} {α:Type} {enc:α→List D}
theorem cwhT {t e sz by_:Nat} {g2:Bool} {o n:Nat} {ys:List α} {g m:Bool} {rt:TypeId} {h:Int} {hi:Operand} [ht:TySl P t e sz by_] (H:fw ys 0 h=true) (hn:ys.length=n) (hx:opT sl x= .v (.c (.w o n))) (ho:go ob o=some (.row rt sz (ys.map enc) g m)) (hh:opT sl hi= .v (.c (.d g2 (.i .i64 h)))) (hN:nlt d N=true):
 NS0 P N ⟨some d,.slice t x none (some hi) none,ty,ps,af,gd⟩ sl ob nx d (.v (.c (.s o sz 0 h.toNat))) ⟨d,[(x,.v (.c (.w o n))),(hi,.v (.c (.d g2 (.i .i64 h))))],[(o,.row rt sz (ys.map enc) g m)],.v (.c (.s o sz 0 h.toNat)),[]⟩:=by
 simp only[fw,decide_eq_true_eq] at H
 exact cV (st:=⟨sl,ob,nx⟩) (Ha (by simpa using hn) H.2.1 (by omega)) rfl hN ⟨hx,hh,trivial⟩ ⟨ho,trivial⟩ rfl
theorem cwlT {t e sz by_:Nat} {g2:Bool} {o n:Nat} {ys:List α} {g m:Bool} {rt:TypeId} {l:Int} {lo:Operand} [ht:TySl P t e sz by_] (H:fw ys l ys.length=true) (hn:ys.length=n) (hx:opT sl x= .v (.c (.w o n))) (ho:go ob o=some (.row rt sz (ys.map enc) g m)) (hl:opT sl lo= .v (.c (.d g2 (.i .i64 l)))) (hN:nlt d N=true):
 NS0 P N ⟨some d,.slice t x (some lo) none none,ty,ps,af,gd⟩ sl ob nx d (.v (.c (.s o sz l.toNat (n-l.toNat)))) ⟨d,[(x,.v (.c (.w o n))),(lo,.v (.c (.d g2 (.i .i64 l))))],[(o,.row rt sz (ys.map enc) g m)],.v (.c (.s o sz l.toNat (n-l.toNat))),[]⟩:=by
 simp only[fw,decide_eq_true_eq] at H
 exact cV (st:=⟨sl,ob,nx⟩) (Hb (by simpa using hn) H.1 (by omega)) rfl hN ⟨hx,hl,trivial⟩ ⟨ho,trivial⟩ rfl
theorem Qb {o sz:Nat} {t:TypeId} {ys:List α} {g m:Bool} {h:Int} (H:fw ys 0 h=true) (ho:go ob o=some (.row t sz (ys.map enc) g m)):Src ob (.s o sz 0 h.toNat) ((ys.take h.toNat).map enc) g:=by
 simp only[fw,decide_eq_true_eq] at H
 have:=Src.s (off:=0) (len:=h.toNat) ho (by simp;omega)
 rwa [List.drop_zero,←List.map_take] at this
theorem Qc {o sz n:Nat} {t:TypeId} {ys:List α} {g m:Bool} {l:Int} (H:fw ys l ys.length=true) (hn:ys.length=n) (ho:go ob o=some (.row t sz (ys.map enc) g m)):Src ob (.s o sz l.toNat (n-l.toNat)) ((ys.drop l.toNat).map enc) g:=by
 simp only[fw,decide_eq_true_eq] at H
 subst hn
 have:=Src.s (off:=l.toNat) (len:=ys.length-l.toNat) ho (by simp;omega)
 rwa [←List.map_drop,List.take_of_length_le (by simp)] at this
theorem mq {t:TypeId} {e sz by_:Nat} {g:Bool} {kd:IntKind} {o n:Nat} {i:Int} {ys:List α} {a:α} [TySl P t e sz by_] (H:ix ys i=some a) (hx:opT sl x= .v (.c (.wn o n)):=by exact rfl) (hy:opT sl y= .v (.c (.d g (.i kd i))):=by exact rfl) (hn:ys.length=n:=by first|rfl|simp) (hN:nlt d N=true:=by exact rfl):
 NS0 P N ⟨some d,.indexAddr t x y,ty,ps,af,gd⟩ sl ob nx d (.v (.c (.e o sz i.toNat 0))) ⟨d,[(x,.v (.c (.wn o n))),(y,.v (.c (.d g (.i kd i))))],[],.v (.c (.e o sz i.toNat 0)),[]⟩:=
 cV (st:=⟨sl,ob,nx⟩) (G6 (ixE H).1 (by have:=Mn H;omega)) rfl hN ⟨hx,hy,trivial⟩ trivial rfl
theorem oen {t:TypeId} {o sz i j:Nat} {rt:TypeId} {els:List (List D)} {g:Bool} {el:List D} {c:C} [TySc P t] (hx:opT sl x= .v (.c (.e o sz i j)):=by exact rfl) (ho:go ob o=some (.rown rt sz els g):=by exact rfl) (hN:nlt d N=true:=by exact rfl) (he:els[i]?=some el) (hc:ld1 g j el=some c:=by exact rfl):
 NS0 P N ⟨some d,.load t x,ty,ps,af,gd⟩ sl ob nx d (.v (.c c)) ⟨d,[(x,.v (.c (.e o sz i j)))],[(o,.rown rt sz els g)],.v (.c c),[]⟩:=cV (st:=⟨sl,ob,nx⟩) (Ki he hc) rfl hN ⟨hx,trivial⟩ ⟨ho,trivial⟩ rfl
theorem Dq {t:TypeId} {n:Nat} {o sz i j:Nat} {rt:TypeId} {els:List (List D)} {g:Bool} {el:List D} {cs:List C} [TyAg P t n] (hx:opT sl x= .v (.c (.e o sz i j)):=by exact rfl) (ho:go ob o=some (.rown rt sz els g):=by exact rfl) (hN:nlt d N=true:=by exact rfl) (he:els[i]?=some el) (hc:C8 g j n el=some cs:=by exact rfl):
 NS0 P N ⟨some d,.load t x,ty,ps,af,gd⟩ sl ob nx d (.v (.agg cs)) ⟨d,[(x,.v (.c (.e o sz i j)))],[(o,.rown rt sz els g)],.v (.agg cs),[]⟩:=cV (st:=⟨sl,ob,nx⟩) (Bd he hc) rfl hN ⟨hx,trivial⟩ ⟨ho,trivial⟩ rfl
theorem sv {ys:List α} {i:Int} {a:α} (H:ix ys i=some a):ys.map enc≠[]:=by
 intro h
 have:=Mn H
 have h0:=(ixE H).1
 rw[List.map_eq_nil_iff] at h
 subst h
 simp at this;omega
end
theorem wnn {sl:List (Nat×T)} {k o n n':Nat} (h:gt sl k= .v (.c (.wn o n))) (hn:n=n'):gt sl k= .v (.c (.wn o n')):=hn▸h
def L2 (o:Nat) (x:D) (g:Bool) (k:Nat):C→Option (C×List (Nat×Nat))
 | .wn l n=>match d0 l o with
  |true=>some (.d g x,[(k,n)])
  |false=>some (.wn l n,[])
 |c=>some (c,[])
def BR (o:Nat) (x:D) (g:Bool) (k:Nat):List C→Option (List C×List (Nat×Nat))
 |[]=>some ([],[])
 |c::cs=>match L2 o x g k c,BR o x g k cs with
  |some (x,e),some (xs,es)=>some (x::xs,e++es)
  |_,_=>none
def L5 (o:Nat) (x:D) (g:Bool) (k:Nat):V→Option (V×List (Nat×Nat))
 | .c c=>match L2 o x g k c with
  |some (x,e)=>some (.c x,e)
  |none=>none
 | .agg cs=>match BR o x g k cs with
  |some (x,e)=>some (.agg x,e)
  |none=>none
def EX (o:Nat) (x:D) (g:Bool) (k:Nat):List V→Option (List V×List (Nat×Nat))
 |[]=>some ([],[])
 |c::cs=>match L5 o x g k c,EX o x g k cs with
  |some (x,e),some (xs,es)=>some (x::xs,e++es)
  |_,_=>none
def L4 (o:Nat) (x:D) (g:Bool) (k:Nat):T→Option (T×List (Nat×Nat))
 | .v v=>match L5 o x g k v with
  |some (x,e)=>some (.v x,e)
  |none=>none
 | .tup vs=>match EX o x g k vs with
  |some (x,e)=>some (.tup x,e)
  |none=>none
 | .any=>some (.any,[])
def L3 (o:Nat) (x:D) (g:Bool) (k:Nat):List (Nat×T)→Option (List (Nat×T)×List (Nat×Nat))
 |[]=>some ([],[])
 |(j,t)::r=>match L4 o x g k t,L3 o x g k r with
  |some (x,e),some (xs,es)=>some ((j,x)::xs,e++es)
  |_,_=>none
def sh (o:Nat) (x:D) (g:Bool) (k:Nat):List (Nat×Ob)→Option (List (Nat×Ob)×List (Nat×Nat))
 |[]=>some ([],[])
 |(j,.var t cs)::r=>match d0 j o with
  |true=>none
  |false=>match BR o x g k cs,sh o x g k r with
   |some (x,e),some (xs,es)=>some ((j,.var t x)::xs,e++es)
   |_,_=>none
 |(j,.row t sz els gg m)::r=>match sh o x g k r with
  |some (xs,es)=>match d0 j o with
   |true=>some (xs,es)
   |false=>some ((j,.row t sz els gg m)::xs,es)
  |none=>none
 |(j,.rown t sz els gg)::r=>match sh o x g k r with
  |some (xs,es)=>match d0 j o with
   |true=>some (xs,es)
   |false=>some ((j,.rown t sz els gg)::xs,es)
  |none=>none
 |(j,.abs i y)::r=>match sh o x g k r with
  |some (xs,es)=>match d0 j o with
   |true=>some (xs,es)
   |false=>some ((j,.abs i y)::xs,es)
  |none=>none
section
variable {E E':Env} {w:World} {o k:Nat} {x:D} {g:Bool} (hd:∀u,cvC E w (.wn o k) u→cvC E' w (.d g x) u) (hk:il E w E' w)
include hd hk
theorem Ir {c c':C} {e:List (Nat×Nat)} {u:Value} (h:L2 o x g k c=some (c',e)) (he:Eqs e) (hc:cvC E w c u):cvC E' w c' u:=by
 cases c with
 |wn l n=>
  simp only[L2] at h
  split at h
  ·rename_i hb
   have:=RU hb
   subst this
   simp at h;obtain⟨rfl,rfl⟩:=h
   have hn:k=n:=he.1
   subst hn
   exact hd u hc
  ·simp at h;obtain⟨rfl,rfl⟩:=h;exact pR hk hc
 |_=>simp only[L2,Option.some.injEq,Prod.mk.injEq] at h;obtain⟨rfl,rfl⟩:=h;exact pR hk hc
theorem zC:∀{cs cs':List C} {e:List (Nat×Nat)} {us:List Value},BR o x g k cs=some (cs',e)→Eqs e→CV E w cs us→CV E' w cs' us
 |[],cs',e,us,h,_,hc=>by
  simp[BR] at h;obtain⟨rfl,rfl⟩:=h
  cases us with
  |nil=>trivial
  |cons _ _=>exact hc.elim
 |c::cs,cs',e,us,h,he,hc=>by
  cases us with
  |nil=>exact hc.elim
  |cons u us=>
   simp only[BR] at h
   split at h
   ·rename_i h1 h2
    simp at h;obtain⟨rfl,rfl⟩:=h
    obtain⟨k1,k2⟩:=dZ he
    exact⟨Ir hd hk h1 k1 hc.1,zC h2 k2 hc.2⟩
   ·cases h
theorem Is {v v':V} {e:List (Nat×Nat)} {u:Value} (h:L5 o x g k v=some (v',e)) (he:Eqs e) (hv:cvV E w v u):cvV E' w v' u:=by
 cases v with
 |c c=>
  simp only[L5] at h
  split at h
  ·rename_i h1;simp at h;obtain⟨rfl,rfl⟩:=h;exact Ir hd hk h1 he hv
  ·cases h
 |agg cs=>
  simp only[L5] at h
  split at h
  ·rename_i h1;simp at h;obtain⟨rfl,rfl⟩:=h;obtain⟨arr,hu,hc⟩:=hv;exact⟨arr,hu,zC hd hk h1 he hc⟩
  ·cases h
theorem EY:∀{cs cs':List V} {e:List (Nat×Nat)} {us:List Value},EX o x g k cs=some (cs',e)→Eqs e→VV E w cs us→VV E' w cs' us
 |[],cs',e,us,h,_,hc=>by
  simp[EX] at h;obtain⟨rfl,rfl⟩:=h
  cases us with
  |nil=>trivial
  |cons _ _=>exact hc.elim
 |c::cs,cs',e,us,h,he,hc=>by
  cases us with
  |nil=>exact hc.elim
  |cons u us=>
   simp only[EX] at h
   split at h
   ·rename_i h1 h2
    simp at h;obtain⟨rfl,rfl⟩:=h
    obtain⟨k1,k2⟩:=dZ he
    exact⟨Is hd hk h1 k1 hc.1,EY h2 k2 hc.2⟩
   ·cases h
theorem OK {v v':T} {e:List (Nat×Nat)} {u:Value} (h:L4 o x g k v=some (v',e)) (he:Eqs e) (hv:cvT E w v u):cvT E' w v' u:=by
 cases v with
 |v v=>
  simp only[L4] at h
  split at h
  ·rename_i h1;simp at h;obtain⟨rfl,rfl⟩:=h;exact Is hd hk h1 he hv
  ·cases h
 |tup vs=>
  simp only[L4] at h
  split at h
  ·rename_i h1;simp at h;obtain⟨rfl,rfl⟩:=h;obtain⟨arr,hu,hc⟩:=hv;exact⟨arr,hu,EY hd hk h1 he hc⟩
  ·cases h
 |any=>simp[L4] at h;obtain⟨rfl,rfl⟩:=h;trivial
theorem C0 {j:Nat} {u:Value}:∀{sl sl':List (Nat×T)} {e:List (Nat×Nat)},L3 o x g k sl=some (sl',e)→Eqs e→cvT E w (gt sl j) u→cvT E' w (gt sl' j) u
 |[],sl',e,h,_,_=>by simp[L3] at h;obtain⟨rfl,rfl⟩:=h;trivial
 |(i,t)::r,sl',e,h,he,hc=>by
  simp only[L3] at h
  split at h
  ·rename_i h1 h2
   simp at h;obtain⟨rfl,rfl⟩:=h
   obtain⟨k1,k2⟩:=dZ he
   by_cases hj:i=j
   ·subst hj;rw[dJ] at hc ⊢;exact OK hd hk h1 k1 hc
   ·rw[cN _ _ hj] at hc ⊢;exact C0 h2 k2 hc
  ·cases h
theorem mS {l:Nat} {y:Ob} (hlo:l≠o) (hF:∀b c,E.r l=some (b,c)→¬E.F b→¬E'.F b):∀{ob ob':List (Nat×Ob)} {e:List (Nat×Nat)},sh o x g k ob=some (ob',e)→Eqs e→go ob' l=some y→(∀y,go ob l=some y→co E w l y)→co E' w l y
 |[],ob',e,h,_,hy,_=>by simp[sh] at h;obtain⟨rfl,rfl⟩:=h;cases hy
 |(i,.var t cs)::r,ob',e,h,he,hy,hb=>by
  simp only[sh] at h
  split at h
  ·cases h
  ·split at h
   ·rename_i a1 a2
    simp at h;obtain⟨rfl,rfl⟩:=h
    obtain⟨k1,k2⟩:=dZ he
    by_cases hi:i=l
    ·subst hi
     rw[b8] at hy;cases hy
     obtain⟨b,c,arr,q1,q2,q3,q4⟩:=hb _ (b8 _ _ _)
     exact⟨b,c,arr,hk.r _ _ q1,q2,zC hd hk a1 k1 q3,hF b c q1 q4⟩
    ·rw[bu _ _ hi] at hy
     exact mS hlo hF a2 k2 hy (fun y hy=>hb y (by rw[bu _ _ hi];exact hy))
   ·cases h
 |(i,.row t sz els gg m)::r,ob',e,h,he,hy,hb=>by
  simp only[sh] at h
  split at h
  ·rename_i a2
   split at h
   ·rename_i hb2
    simp at h;obtain⟨rfl,rfl⟩:=h
    have hio:=RU hb2
    exact mS hlo hF a2 he hy (fun y hy=>hb y (by rw[bu _ _ (fun e=>hlo (e.symm.trans hio))];exact hy))
   ·simp at h;obtain⟨rfl,rfl⟩:=h
    by_cases hi:i=l
    ·subst hi
     rw[b8] at hy;cases hy
     exact eU hk (fun _ _ _=>rfl) (fun b c hr=>hF b c hr) (hb _ (b8 _ _ _))
    ·rw[bu _ _ hi] at hy
     exact mS hlo hF a2 he hy (fun y hy=>hb y (by rw[bu _ _ hi];exact hy))
  ·cases h
 |(i,.rown t sz els gg)::r,ob',e,h,he,hy,hb=>by
  simp only[sh] at h
  split at h
  ·rename_i a2
   split at h
   ·rename_i hb2
    simp at h;obtain⟨rfl,rfl⟩:=h
    have hio:=RU hb2
    exact mS hlo hF a2 he hy (fun y hy=>hb y (by rw[bu _ _ (fun e=>hlo (e.symm.trans hio))];exact hy))
   ·simp at h;obtain⟨rfl,rfl⟩:=h
    by_cases hi:i=l
    ·subst hi
     rw[b8] at hy;cases hy
     exact eU hk (fun _ _ _=>rfl) (fun b c hr=>hF b c hr) (hb _ (b8 _ _ _))
    ·rw[bu _ _ hi] at hy
     exact mS hlo hF a2 he hy (fun y hy=>hb y (by rw[bu _ _ hi];exact hy))
  ·cases h
 |(i,.abs _ _)::r,ob',e,h,he,hy,hb=>by
  simp only[sh] at h
  split at h
  ·rename_i a2
   split at h
   ·rename_i hb2
    simp at h;obtain⟨rfl,rfl⟩:=h
    have hio:=RU hb2
    exact mS hlo hF a2 he hy (fun y hy=>hb y (by rw[bu _ _ (fun e=>hlo (e.symm.trans hio))];exact hy))
   ·simp at h;obtain⟨rfl,rfl⟩:=h
    by_cases hi:i=l
    ·subst hi
     rw[b8] at hy;cases hy
     exact eU hk (fun _ _ _=>rfl) (fun b c hr=>hF b c hr) (hb _ (b8 _ _ _))
    ·rw[bu _ _ hi] at hy
     exact mS hlo hF a2 he hy (fun y hy=>hb y (by rw[bu _ _ hi];exact hy))
  ·cases h
end
theorem iO {o k:Nat} {x:D} {g:Bool}:∀{ob ob':List (Nat×Ob)} {e:List (Nat×Nat)},sh o x g k ob=some (ob',e)→go ob' o=none
 |[],ob',e,h=>by simp[sh] at h;obtain⟨rfl,rfl⟩:=h;rfl
 |(i,.var t cs)::r,ob',e,h=>by
  simp only[sh] at h
  split at h
  ·cases h
  ·rename_i hb
   split at h
   ·rename_i a1 a2
    simp at h;obtain⟨rfl,rfl⟩:=h
    rw[bu _ _ (gp hb)];exact iO a2
   ·cases h
 |(i,.row t sz els gg m)::r,ob',e,h=>by
  simp only[sh] at h
  split at h
  ·rename_i a2
   split at h
   ·simp at h;obtain⟨rfl,rfl⟩:=h;exact iO a2
   ·rename_i hb
    simp at h;obtain⟨rfl,rfl⟩:=h
    rw[bu _ _ (gp hb)];exact iO a2
  ·cases h
 |(i,.rown t sz els gg)::r,ob',e,h=>by
  simp only[sh] at h
  split at h
  ·rename_i a2
   split at h
   ·simp at h;obtain⟨rfl,rfl⟩:=h;exact iO a2
   ·rename_i hb
    simp at h;obtain⟨rfl,rfl⟩:=h
    rw[bu _ _ (gp hb)];exact iO a2
  ·cases h
 |(i,.abs _ _)::r,ob',e,h=>by
  simp only[sh] at h
  split at h
  ·rename_i a2
   split at h
   ·simp at h;obtain⟨rfl,rfl⟩:=h;exact iO a2
   ·rename_i hb
    simp at h;obtain⟨rfl,rfl⟩:=h
    rw[bu _ _ (gp hb)];exact iO a2
  ·cases h
theorem ev {N nx ty sz:Nat} {sl sl':List (Nat×T)} {ob ob':List (Nat×Ob)} {els:List (List D)} {g:Bool} {e1 e2:List (Nat×Nat)} (o:Nat) (hrv:rsv o=false:=by exact rfl) (ho:go ob o=some (.rown ty sz els g):=by exact rfl) (hs:L3 o (.l els) g els.length sl=some (sl',e1):=by exact rfl) (hb:sh o (.l els) g els.length ob=some (ob',e2):=by exact rfl) (h1:Eqs e1:=by repeat (first|exact trivial|refine⟨by first|rfl|simp,?_⟩)) (h2:Eqs e2:=by repeat (first|exact trivial|refine⟨by first|rfl|simp,?_⟩)):
 cZ N ⟨sl,ob,nx⟩ ⟨sl',ob',nx⟩:=by
 intro cx E a w hR
 rcases hR.obs o _ ho with⟨hE,hels⟩|⟨hE,b,c,arr,hr,hh,ha,hlc,hmx,hes,hrd,hF⟩
 ·have hk:il E w E w:=⟨fun _ _ h=>h,fun _ _ h=>h,fun _ _ _=>rfl,fun _ _ h=>⟨h,rfl⟩,fun _ h=>⟨h,.refl _ _⟩,rfl⟩
  have hd:∀u,cvC E w (.wn o els.length) u→cvC E w (.d g (.l els)) u:=by
   intro u hu
   rcases hu with⟨_,_,rfl⟩|⟨hu,_⟩
   ·subst hels;show rdD _ _ _ _;rw[rdD];exact⟨none,0,rfl,RX _,.inl rfl⟩
   ·exact absurd hE hu
  refine⟨E,hR.ok,hR.dom,fun l y hl=>?_,fun j=>C0 hd hk hs h1 (hR.sl j),hR.dfr,hR.size,hR.td⟩
  by_cases e:l=o
  ·subst e;rw[iO hb] at hl;cases hl
  ·exact mS hd hk e (fun _ _ _ h=>h) hb h2 hl (fun y hy=>hR.obs l y hy)
 ·obtain⟨hb1,hb2⟩:=hR.ok.rb o b c hr
  have hb3:cx.w0.heap.size≤b:=hb2.resolve_right (fun h=>by rw[hrv] at h;cases h.2)
  let E':Env:=⟨E.r,fun k=>E.F k∨k=b,fun k=>E.G k∨(g=true∧k=b),E.T,E.Z,E.n⟩
  have hH:∀g' k,E.H g' k→E'.H g' k:=fun g' k hk=>by cases g'<;>exact .inl hk
  have hk:il E w E' w:=⟨fun _ _ h=>h,hH,fun _ _ _=>rfl,fun _ _ h=>⟨h,rfl⟩,fun _ h=>⟨h,.refl _ _⟩,rfl⟩
  have hd:∀u,cvC E w (.wn o els.length) u→cvC E' w (.d g (.l els)) u:=by
   intro u hu
   rcases hu with⟨hu,_⟩|⟨_,b',c',hr',rfl⟩
   ·exact absurd hu hE
   ·rw[hr] at hr';cases hr'
    show rdD _ _ _ _
    rw[rdD]
    refine⟨_,_,rfl,hlc,.inr ⟨b,0,rfl,?_,cd (fun _ _=>rfl) (hH g) rfl _ _ hrd⟩⟩
    cases g
    ·exact .inr rfl
    ·exact .inr ⟨rfl,rfl⟩
  refine⟨E',⟨?_,?_,?_,hR.ok.rb,hR.ok.inj,hR.ok.os,hR.ok.tape,hR.ok.output,hR.ok.size,hR.ok.block,hR.ok.pin,fun k hk=>hk.elim (hR.ok.ff k) (fun e=>.inr (e▸hb3)),fun k hk hk'=>hk.elim (fun h=>hR.ok.gc k h hk') (fun e=>e▸.mk hh),
   ⟨fun l k h=>?_,hR.ok.sf.tt,fun k h=>?_,hR.ok.sf.zs,hR.ok.sf.ze⟩⟩,hR.dom,fun l y hl=>?_,fun j=>C0 hd hk hs h1 (hR.sl j),hR.dfr,hR.size,hR.td⟩
  ·rintro k (h|rfl)
   ·exact hR.ok.fb k h
   ·exact hb1
  ·rintro k (h|⟨_,rfl⟩)
   ·exact .inl (hR.ok.gf k h)
   ·exact .inr rfl
  ·rintro k (h|⟨_,rfl⟩)
   ·exact hR.ok.gn k h
   ·exact .inl hb3
  ·obtain⟨h1,h2,h3,h4⟩:=hR.ok.sf.tb l k h
   exact⟨h1,fun hk=>hk.elim h2 (fun e=>by subst e;exact h3 o c hr),h3,h4⟩
  ·obtain⟨h1,h2,h3,h4⟩:=hR.ok.sf.zc k h
   exact⟨h1,fun hk=>hk.elim h2 (fun e=>by subst e;exact h3 o c hr),h3,h4⟩
  ·by_cases e:l=o
   ·subst e;rw[iO hb] at hl;cases hl
   ·exact mS hd hk e (fun b' c' hr' hn hn'=>hn'.elim hn (fun h=>by subst h;exact e (hR.ok.inj _ _ _ _ _ hr' hr))) hb h2 hl (fun y hy=>hR.obs l y hy)
end Go.AM
