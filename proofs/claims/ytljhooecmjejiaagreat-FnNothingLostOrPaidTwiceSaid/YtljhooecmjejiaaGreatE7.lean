/- A part. -/
import Derived.Test.YtljhooecmjejiaaGreatE6
import Derived.JoinedOf
set_option linter.unusedVariables false
set_option linter.unusedSimpArgs false
open List renaming eq_nil_iff_forall_not_mem→Uj,getElem?_toArray→Uk,getElem?_cons_succ→Um,any_eq_false→Ul,all_eq_true→Ui
namespace Go.AM
def mt (ops:Array Oper):Array Bool→List Nat→Prop
 |listed,[]=>Region.ready .any ops listed=[]
 |listed,i::L=>i∈Region.ready .any ops listed∧mt ops (listed.setIfInBounds i true) L
section
variable {P:Program} {ops:Array Oper} {Q:Exit→Act→World→Prop}
theorem J3:∀(fuel t:Nat) (listed:Array Bool),listed.size=ops.size→unl ops listed≤fuel→mt ops listed (Region.linearise.go .any ops fuel t listed []):=by
 intro fuel
 induction fuel with
 |zero=>
  intro t listed hsz hu
  simp only[Region.linearise.go,List.reverse_nil,mt]
  rw[Uj]
  intro i hi
  obtain⟨h1,h2,_⟩:=ji hsz hi
  have:=oy hsz h1 h2
  omega
 |succ fuel ih=>
  intro t listed hsz hu
  simp only[Region.linearise.go]
  change mt ops listed (match(Region.ready .any ops listed)[t%(Region.ready .any ops listed).length]? with
   |some i=>Region.linearise.go .any ops fuel (t/(Region.ready .any ops listed).length) (listed.setIfInBounds i true) [i]
   |none=>[].reverse)
  cases hi:(Region.ready .any ops listed)[t%(Region.ready .any ops listed).length]? with
  |none=>
   have hnil:Region.ready .any ops listed=[]:=by
    cases hr:Region.ready .any ops listed with
    |nil=>rfl
    |cons x xs=>
     rw[hr] at hi
     have hlt:t%(x::xs).length<(x::xs).length:=Nat.mod_lt _ (by simp)
     simp at hi
     simp at hlt
     omega
   exact hnil
  |some i=>
   simp only[]
   rw[linearise_go_acc,List.reverse_singleton,List.singleton_append]
   have hm:=List.mem_of_getElem? hi
   obtain⟨h1,h2,_⟩:=ji hsz hm
   have:=oy hsz h1 h2
   exact⟨hm,ih _ _ (by simpa using hsz) (by omega)⟩
theorem Cv:∀(L:List Nat) (listed:Array Bool),listed.size=ops.size→mt ops listed L→L.length≤unl ops listed
 |[],_,_,_=>Nat.zero_le _
 |i::L,listed,hsz,h=>by
  obtain⟨h1,h2,_⟩:=ji hsz h.1
  have:=oy hsz h1 h2
  have h3:=Cv L _ (by simpa using hsz) h.2
  simp only[List.length_cons];omega
theorem Cw:∀(L:List Nat) (n:Nat) (listed:Array Bool) (a:Act) (w:World),mt ops listed L→L.length≤n→wpAny P .any ops Q n listed a w→wpOps P ops Q L a w
 |[],0,_,_,_,_,_,h=>h.2
 |[],n+1,_,_,_,hv,_,h=>h.1 hv
 |i::L,0,_,_,_,_,hl,_=>by simp at hl
 |i::L,n+1,listed,a,w,hv,hl,h=>by
  rw[wpOps_cons]
  exact wpOp_mono (fun a w h=>Cw L n _ a w hv.2 (by simpa using hl) h) (h.2 i hv.1)
end
def mu:List Oper→Nat→Nat→List Oper
 |[],_,_=>[]
 |⟨d,op,ty,ps,af,gd⟩::r,0,q=>⟨d,op,ty,ps,af.push ⟨q,.data⟩,gd⟩::r
 |o::r,p+1,q=>o::mu r p q
theorem qs:∀{l:List Oper} {p q i:Nat},i≠p→(mu l p q)[i]?=l[i]?
 |[],_,_,_,_=>rfl
 |o::r,0,q,0,h=>absurd rfl h
 |⟨d,op,ty,ps,af,gd⟩::r,0,q,i+1,_=>by simp[mu]
 |o::r,p+1,q,0,_=>by simp[mu]
 |o::r,p+1,q,i+1,h=>by simp only[mu,Um];exact qs (fun e=>h (by rw[e]))
theorem tk:∀{l:List Oper} {p q:Nat},(mu l p q)[p]?=(l[p]?).map fun o=>{o with after:=o.after.push ⟨q,.data⟩}
 |[],_,_=>rfl
 |⟨d,op,ty,ps,af,gd⟩::r,0,q=>by simp[mu]
 |o::r,p+1,q=>by simp only[mu,Um];exact tk
theorem yX:∀{l:List Oper} {p q:Nat},(mu l p q).length=l.length
 |[],_,_=>rfl
 |⟨d,op,ty,ps,af,gd⟩::r,0,q=>by simp[mu]
 |o::r,p+1,q=>by simp[mu,yX]
theorem jI {l:List Oper} {p q:Nat} {listed:Array Bool} {i:Nat}:i∈Region.ready .any (mu l p q).toArray listed↔i∈Region.ready .any l.toArray listed∧(i=p→listed.getD q false=true):=by
 rw[mem_ready,mem_ready]
 simp only[Uk]
 by_cases h:i=p
 ·subst h
  rw[tk]
  constructor
  ·rintro⟨h1,o,ho,hd⟩
   rw[Option.map_eq_some_iff] at ho
   obtain⟨o',ho',rfl⟩:=ho
   exact⟨⟨h1,o',ho',fun e he hb=>hd e (by simp[he]) hb⟩,fun _=>hd ⟨q,.data⟩ (by simp) rfl⟩
  ·rintro⟨⟨h1,o,ho,hd⟩,h2⟩
   refine⟨h1,_,by rw[ho];rfl,fun e he hb=>?_⟩
   rcases Array.mem_push.1 he with he|he
   ·exact hd e he hb
   ·subst he;exact h2 rfl
 ·rw[qs h]
  exact⟨fun k=>⟨k,fun e=>absurd e h⟩,fun k=>k.1⟩
theorem AY {l:List Oper} {p q:Nat}:∀(L:List Nat) (listed:Array Bool),listed.size=l.toArray.size→listed.getD q false=true→mt l.toArray listed L→mt (mu l p q).toArray listed L
 |[],listed,_,hq,h=>by
  show Region.ready .any (mu l p q).toArray listed=[]
  rw[Uj]
  intro i hi
  have:=(jI.1 hi).1
  have h':Region.ready .any l.toArray listed=[]:=h
  rw[h'] at this;cases this
 |i::L,listed,hsz,hq,h=>by
  refine⟨jI.2 ⟨h.1,fun _=>hq⟩,AY L _ (by simpa using hsz) ?_ h.2⟩
  obtain⟨h1,_⟩:=ji hsz h.1
  rw[bW (by omega)]
  split
  ·rfl
  ·exact hq
theorem yg {l:List Oper} {p q:Nat} (hpq:p≠q):∀(L:List Nat) (listed:Array Bool),listed.size=l.toArray.size→listed.getD p false=false→listed.getD q false=false→mt l.toArray listed L→mt (mu l p q).toArray listed L∨mt (mu l q p).toArray listed L
 |[],listed,_,_,_,h=>by
  left
  show Region.ready .any (mu l p q).toArray listed=[]
  rw[Uj]
  intro i hi
  have:=(jI.1 hi).1
  have h':Region.ready .any l.toArray listed=[]:=h
  rw[h'] at this;cases this
 |i::L,listed,hsz,hp,hq,h=>by
  have hs2:(listed.setIfInBounds i true).size=l.toArray.size:=by simpa using hsz
  obtain⟨h1,_⟩:=ji hsz h.1
  have hg:∀j,(listed.setIfInBounds i true).getD j false=if i=j then true else listed.getD j false:=fun j=>bW (by omega)
  by_cases e1:i=q
  ·left
   exact⟨jI.2 ⟨h.1,fun e=>absurd (e.symm.trans e1) hpq⟩,AY L _ hs2 (by rw[hg,if_pos e1]) h.2⟩
  ·by_cases e2:i=p
   ·right
    exact⟨jI.2 ⟨h.1,fun e=>absurd e e1⟩,AY L _ hs2 (by rw[hg,if_pos e2]) h.2⟩
   ·rcases yg hpq L _ hs2 (by rw[hg,if_neg e2];exact hp) (by rw[hg,if_neg e1];exact hq) h.2 with k|k
    ·exact .inl ⟨jI.2 ⟨h.1,fun e=>absurd e e2⟩,k⟩
    ·exact .inr ⟨jI.2 ⟨h.1,fun e=>absurd e e1⟩,k⟩
section
variable {P:Program} {Q:Exit→Act→World→Prop}
theorem Ef {l:List Oper} {p q:Nat} (ts:Array Value) (j:Nat):yielded (mu l p q).toArray ts j=yielded l.toArray ts j:=by
 unfold yielded
 have:(((mu l p q).toArray)[j]?).bind (·.dst)=((l.toArray)[j]?).bind (·.dst):=by
  simp only[Uk]
  by_cases h:j=p
  ·subst h;rw[tk];cases l[j]?<;>rfl
  ·rw[qs h]
 rw[this]
theorem ve {l:List Oper} {p q:Nat}:∀(L:List Nat) (a:Act) (w:World),wpOps P (mu l p q).toArray Q L a w→wpOps P l.toArray Q L a w
 |[],_,_,h=>h
 |i::L,a,w,h=>by
  rw[wpOps_cons] at h ⊢
  have h':=wpOp_mono (fun a w=>ve L a w) h
  unfold wpOp at h' ⊢
  have hy:yielded (mu l p q).toArray a.tmps=yielded l.toArray a.tmps:=funext (Ef a.tmps)
  rw[hy] at h'
  simp only[Uk] at h' ⊢
  by_cases e:i=p
  ·subst e
   rw[tk] at h'
   cases e2:l[i]? with
   |none=>rw[e2] at h';exact h'
   |some o=>rw[e2] at h';exact h'
  ·rw[qs e] at h';exact h'
end
def rkO:List Nat→Nat→Nat
 |[],_=>0
 |i::is,k=>bif Nat.beq i k then 0 else rkO is k+1
def LQ (ops:Array Oper) (is:List Nat):Bool:=
 (List.range ops.size).all fun i=>match ops[i]? with
  |some o=>o.after.toList.all fun e=>!Region.binds .any e||(nlt e.on ops.size&&nlt (rkO is e.on) (rkO is i))
  |none=>false
theorem JV {ops:Array Oper} {is:List Nat} (h:LQ ops is=true):Edg ops (rkO is):=by
 intro i o ho e he hb
 have hi:i<ops.size:=by
  rcases Nat.lt_or_ge i ops.size with h|h
  ·exact h
  ·rw[Array.getElem?_eq_none h] at ho;cases ho
 have:=List.all_eq_true.1 h i (by simpa using hi)
 simp only[ho] at this
 have:=List.all_eq_true.1 this e (by simpa using he)
 simp only[hb,Bool.not_true,Bool.false_or,Bool.and_eq_true] at this
 exact⟨cF this.1,cF this.2⟩
def AWA (P:Program) (N:Nat) (l:List Oper) (st:St) (K:St→Prop):Prop:=
 ∀cx E a w,Rel N cx E st a w→∀L,mt l.toArray (Array.replicate l.toArray.size false) L→wpOps P l.toArray (zN N cx (onN K)) L a {w with drawn:=w.drawn+1}
theorem JI {P:Program} {N:Nat} {l:List Oper} {st:St} {K:St→Prop} (p q:Nat) (hpq:Nat.beq p q=false) (h1:AWA P N (mu l p q) st K) (h2:AWA P N (mu l q p) st K):AWA P N l st K:=by
 intro cx E a w hR L hv
 have e1:(mu l p q).toArray.size=l.toArray.size:=by simp[yX]
 have e2:(mu l q p).toArray.size=l.toArray.size:=by simp[yX]
 have hne:p≠q:=fun e=>by rw[e] at hpq;simp at hpq
 rcases yg hne L _ (by simp) (eV _ _) (eV _ _) hv with k|k
 ·rw[←e1] at k;exact ve L _ _ (h1 cx E a w hR L k)
 ·rw[←e2] at k;exact ve L _ _ (h2 cx E a w hR L k)
theorem Lj {P:Program} {N:Nat} {l:List Oper} {st:St} {K:St→Prop} (is:List Nat) {r:List (Nat×Oper)} (he:LQ l.toArray is=true) (hc:Oo l.length is=true) (ho:Fy l is=some r)
 (h:DZ P N l.toArray r [] [] [] st st K):AWA P N l st K:=by
 intro cx E a w hR L hv
 have hR':=vV hR
 have hedge:=JV he
 have hfull:unl l.toArray (Array.replicate l.toArray.size false)=l.toArray.size:=by
  unfold unl
  rw[List.filter_eq_self.2]
  ·simp
  ·intro i hi;rw[eV];rfl
 have:=LO (P:=P) (cx:=cx) (Q:=zN N cx (onN K)) hedge (fun E st a w hR hK=>⟨E,st,hR,hK⟩) h rfl (fun q hq=>by have:=(nW ho).1 q hq;simpa using this) (fun j hj=>by
  have hj':j<l.length:=by simpa using hj
  have:=List.all_eq_true.1 hc j (by simpa using hj')
  exact .inr (.inr ((nW ho).2 j (eT.1 this)))) (fun i o y _ hy=>by simp at hy) (fun k=>rfl) rfl rfl (Array.replicate l.toArray.size false) a _ E (by simp) (fun i o ho hd=>by rw[eV] at hd;cases hd) (fun j=>by rw[eV];simp[pH]) hR'
 exact Cw L _ _ _ _ hv (Cv L _ (by simp) hv) this
theorem Oj {P:Program} {N id:Nat} {l:List Oper} {st:St} {AQ:Exit→St→Prop} (M:St) [c:Clo N AQ] (hm:P.follows .mixedOrders=true) (h:AWA P N l st (fun s=>cZ N s M)) (h2:AQ .normal M):AWC P N (.region id l.toArray true) st AQ:=by
 refine vi (AQ:=onN fun s=>cZ N s M) ?_ (fun e s h=>by
  cases e<;>first|exact c.h _ _ _ h h2|exact h.elim)
 intro cx E a w hR
 exact wp_region_draw fun t=>by
  simp only[Region.schedule,hm,Bool.true_or,if_true]
  exact h cx E a w hR _ (J3 _ _ _ (by simp) (by
   unfold unl
   refine Nat.le_trans (List.length_filter_le _ _) ?_
   simp))
end Go.AM
namespace Go.AM
open Go.RowKit
def cpD {α:Type} (els:List α) (off:Nat) (ys:List α):List α:=els.take off++cpL (els.drop off) ys
@[simp] theorem cpD_len {α:Type} (els ys:List α) (off:Nat):(cpD els off ys).length=els.length:=by simp[cpD];omega
section
variable {P:Program} {N:Nat} {d:Tmp} {ty:TypeId} {ps:String} {af:Array Edge} {gd:Option (Nat×Bool)} {x y z:Operand} {st:St}
end
end Go.AM
namespace Go.AM
theorem wkz {G R:Prop} (hr:R) (h:R→G:=by intro h;(repeat' (first|refine CO ?_|refine nJ ?_|refine yA ?_|refine qv ?_|refine pA rfl ?_|refine nI rfl ?_|refine CM ?_|refine y5 ?_|refine tn ?_|refine tr ?_|refine wT ?_|refine y4 ?_|refine te ?_|refine bx rfl ?_|refine bo rfl ?_|refine bn ?_|refine br ?_|refine GR (by kernel_rfl) rfl ?_|((first|apply uh rfl|apply CN rfl rfl rfl rfl|apply jD rfl|apply LN rfl rfl rfl rfl); · first|exact op rfl rfl rfl rfl|exact opa rfl rfl rfl rfl|exact oq rfl rfl rfl|exact oqa rfl rfl rfl|exact fp rfl rfl rfl|exact fq rfl rfl rfl|exact fe rfl rfl rfl|exact io rfl rfl rfl rfl|exact se rfl rfl rfl|exact bq rfl rfl rfl|exact qe rfl rfl rfl rfl rfl rfl rfl|exact sn rfl rfl rfl|exact bne rfl rfl rfl|exact qn rfl rfl rfl rfl rfl rfl rfl|exact mv1 rfl rfl|exact mv2 rfl rfl|exact mv3 rfl rfl|exact as1 rfl rfl|exact as2 rfl rfl|exact as3 rfl rfl|exact ldT rfl rfl|exact ld rfl rfl|exact lw rfl rfl|exact lwn rfl rfl|exact ls rfl rfl|exact ln rfl rfl|exact QO rfl rfl|exact lz rfl rfl|exact fz rfl rfl rfl|exact oz rfl rfl rfl|exact oza rfl rfl rfl|exact un rfl rfl|exact ng rfl rfl|exact ba rfl rfl rfl|exact bc rfl rfl rfl rfl|exact al rfl rfl|exact pk1 rfl rfl rfl|exact pk0 rfl rfl rfl|exact ex rfl rfl rfl|exact nc rfl rfl|exact fv rfl rfl rfl|exact fva rfl rfl rfl|exact bd rfl rfl rfl|exact bs rfl rfl rfl rfl rfl rfl rfl rfl|exact cv rfl rfl|exact bt1 rfl rfl|exact ib rfl rfl rfl rfl)|(apply eR rfl; · first|exact sp rfl rfl rfl rfl rfl rfl rfl|exact stz rfl rfl rfl rfl)|refine gs rfl rfl rfl rfl rfl rfl ?_|refine zgs rfl rfl rfl rfl rfl rfl rfl ?_|fail));exact h):G:=h hr
theorem wkb {G R:Prop} (hr:R) (h:R→G:=by intro h;(repeat' (first|refine CO ?_|refine nJ ?_|refine yA ?_|refine qv ?_|refine pA rfl ?_|refine nI rfl ?_|refine CM ?_|refine y5 ?_|refine tn ?_|refine tr ?_|refine wT ?_|refine y4 ?_|refine te ?_|refine bx rfl ?_|refine bo rfl ?_|refine bn ?_|refine br ?_|refine GR (by kernel_rfl) rfl ?_|((first|apply uh rfl|apply CN rfl rfl rfl rfl|apply jD rfl|apply LN rfl rfl rfl rfl); · first|exact op rfl rfl rfl rfl|exact opa rfl rfl rfl rfl|exact oq rfl rfl rfl|exact oqa rfl rfl rfl|exact fp rfl rfl rfl|exact fq rfl rfl rfl|exact fe rfl rfl rfl|exact io rfl rfl rfl rfl|exact se rfl rfl rfl|exact bq rfl rfl rfl|exact qe rfl rfl rfl rfl rfl rfl rfl|exact sn rfl rfl rfl|exact bne rfl rfl rfl|exact qn rfl rfl rfl rfl rfl rfl rfl|exact mv1 rfl rfl|exact mv2 rfl rfl|exact mv3 rfl rfl|exact as1 rfl rfl|exact as2 rfl rfl|exact as3 rfl rfl|exact ldT rfl rfl|exact ld rfl rfl|exact lw rfl rfl|exact lwn rfl rfl|exact ls rfl rfl|exact ln rfl rfl|exact QO rfl rfl|exact lz rfl rfl|exact fz rfl rfl rfl|exact oz rfl rfl rfl|exact oza rfl rfl rfl|exact un rfl rfl|exact ng rfl rfl|exact ba rfl rfl rfl|exact bc rfl rfl rfl rfl|exact al rfl rfl|exact pk1 rfl rfl rfl|exact pk0 rfl rfl rfl|exact ex rfl rfl rfl|exact nc rfl rfl|exact fv rfl rfl rfl|exact fva rfl rfl rfl|exact bd rfl rfl rfl|exact cv rfl rfl|exact bt1 rfl rfl|exact ib rfl rfl rfl rfl)|(apply eR rfl; · first|exact sp rfl rfl rfl rfl rfl rfl rfl|exact stz rfl rfl rfl rfl)|refine gs rfl rfl rfl rfl rfl rfl ?_|refine zgs rfl rfl rfl rfl rfl rfl rfl ?_|fail));exact h):G:=h hr
end Go.AM
namespace Go.AM
inductive F where
 |s (d:D)
 |l (t z:Nat) (e:List (List D)) (n:Nat)
inductive LM where
 |t
 |f
 |z
 |w (o:Nat)
 |n (o:Nat)
def LM.c:LM→List (List D)→Nat→C
 | .t,e,_=>.d true (.l e)
 | .f,e,_=>.d false (.l e)
 | .z,_,_=>.nil
 | .w o,_,k=>.w o k
 | .n o,_,k=>.wn o k
def kM:List LM→List F→List C
 |ms,.s d::r=>.d false d::kM ms r
 |m::ms,.l _ _ e n::r=>m.c e n::kM ms r
 |_,_=>[]
def LM.o:LM→Nat→Nat→List (List D)→List (Nat×Ob)→List (Nat×Ob)
 | .w o,a,b,e,r=>(o,.row a b e true true)::r
 | .n o,a,b,e,r=>(o,.rown a b e true)::r
 |_,_,_,_,r=>r
def rM:List LM→List F→List (Nat×Ob)→List (Nat×Ob)
 |ms,.s _::r,q=>rM ms r q
 |m::ms,.l t z e _::r,q=>m.o t z e (rM ms r q)
 |_,_,q=>q
def oM (ms:List LM) (o ty:Nat) (x:List F):List (Nat×Ob):=rM ms x [(o,.var ty (kM ms x))]
inductive RM where
 |d
 |o
 |z
def RM.c:RM→Nat→Nat→List (List D)→Nat→RC
 | .d,_,_,e,_=>.d (.l e)
 | .o,a,b,e,n=>.own a b e n
 | .z,_,_,_,_=>.nil
def qM:List RM→List F→List RC
 |ms,.s d::r=>.d d::qM ms r
 |m::ms,.l t z e n::r=>m.c t z e n::qM ms r
 |_,_=>[]
abbrev tP (o:Nat):T:=.v (.c (.p o 0))
def m0:List (Nat×Nat):=[(190,190),(191,191),(192,192),(193,193),(200,200)]
theorem wJ {G R:Prop} (h:R→G:=by(intro h;(repeat' (first|refine CO ?_|refine nJ ?_|refine yA ?_|refine qv ?_|refine pA rfl ?_|refine nI rfl ?_|refine CM ?_|refine y5 ?_|refine tn ?_|refine tr ?_|refine wT ?_|refine y4 ?_|refine te ?_|refine bx rfl ?_|refine bo rfl ?_|refine bn ?_|refine br ?_|refine GR (by kernel_rfl) rfl ?_|refine Qv ⟨by kernel_rfl,?_⟩|((first|apply uh rfl|apply CN rfl rfl rfl rfl|apply jD rfl|apply LN rfl rfl rfl rfl|apply dr_n rfl|apply PS rfl rfl rfl rfl); · first|exact op rfl rfl rfl rfl|exact opa rfl rfl rfl rfl|exact oq rfl rfl rfl|exact oqa rfl rfl rfl|exact fp rfl rfl rfl|exact fq rfl rfl rfl|exact fe rfl rfl rfl|exact io rfl rfl rfl rfl|exact se rfl rfl rfl|exact bq rfl rfl rfl|exact qe rfl rfl rfl rfl rfl rfl rfl|exact sn rfl rfl rfl|exact bne rfl rfl rfl|exact qn rfl rfl rfl rfl rfl rfl rfl|exact mv1 rfl rfl|exact mv2 rfl rfl|exact mv3 rfl rfl|exact as1 rfl rfl|exact as2 rfl rfl|exact as3 rfl rfl|exact ldT rfl rfl|exact ld rfl rfl|exact lw rfl rfl|exact lwn rfl rfl|exact ls rfl rfl|exact ln rfl rfl|exact QO rfl rfl|exact lz rfl rfl|exact fz rfl rfl rfl|exact oz rfl rfl rfl|exact oza rfl rfl rfl|exact un rfl rfl|exact ng rfl rfl|exact ba rfl rfl rfl|exact bc rfl rfl rfl rfl|exact al rfl rfl|exact pk1 rfl rfl rfl|exact pk0 rfl rfl rfl|exact ex rfl rfl rfl|exact nc rfl rfl|exact fv rfl rfl rfl|exact fva rfl rfl rfl|exact bd rfl rfl rfl|exact bs rfl rfl rfl rfl rfl rfl rfl rfl|exact cv rfl rfl|exact bt1 rfl rfl|exact ib rfl rfl rfl rfl)|(apply eR rfl; · first|exact sp rfl rfl rfl rfl rfl rfl rfl|exact stz rfl rfl rfl rfl)|refine gs rfl rfl rfl rfl rfl rfl ?_|refine zgs rfl rfl rfl rfl rfl rfl rfl ?_|refine dgs rfl rfl rfl rfl rfl rfl rfl ?_|fail));exact h)):R→G:=h
theorem wI {G R:Prop} (hr:R) (h:R→G:=by exact wJ):G:=h hr
theorem wo {N:Nat} {st st':St} (h1:LeS st.sl st'.nx st'.sl:=by repeat (first|exact trivial|refine⟨rfl,rfl,?_⟩|refine⟨wn rfl (by first|rfl|simp),rfl,?_⟩|refine⟨wnn rfl (by first|rfl|simp),rfl,?_⟩)) (h2:LeO st.ob st'.nx st'.ob:=by repeat (first|exact trivial|refine⟨rfl,⟨rfl,rfl⟩,?_⟩)):cZ N st st':=dY h1 h2
section
variable {P:Program} {N:Nat} {st st':St} {AQ:Exit→St→Prop} {ops:Array Oper} {l:List Oper} {o:Oper} {x:Inf} {K:St→Prop} {R:Prop}
theorem nA (h:NS P N o st st' x) (hr:R) (hg:o.guard=none:=by exact rfl) (w:R→AWR P N ops l st' K:=by exact wJ):AWR P N ops (o::l) st K:=uh hg h (w hr)
theorem nG {j:Nat} {dj:Tmp} {b:Bool} (h:NS P N o st st' x) (hr:R) (hg:o.guard=some (j,b):=by exact rfl) (hj:(ops[j]?).bind (·.dst)=some dj:=by exact rfl) (hdj:nlt dj N=true:=by exact rfl) (hb:gt st.sl dj=tB b:=by exact rfl) (w:R→AWR P N ops l st' K:=by exact wJ):AWR P N ops (o::l) st K:=CN hg hj hdj hb h (w hr)
theorem sA (h:AWO P N o st st') (hr:R) (hg:o.guard=none:=by exact rfl) (w:R→AWR P N ops l st' K:=by exact wJ):AWR P N ops (o::l) st K:=eR hg h (w hr)
theorem sG {j:Nat} {dj:Tmp} {b:Bool} (h:AWO P N o st st') (hr:R) (hg:o.guard=some (j,b):=by exact rfl) (hj:(ops[j]?).bind (·.dst)=some dj:=by exact rfl) (hdj:nlt dj N=true:=by exact rfl) (hb:gt st.sl dj=tB b:=by exact rfl) (w:R→AWR P N ops l st' K:=by exact wJ):AWR P N ops (o::l) st K:=jc hg hj (cF hdj) hb h (w hr)
theorem cC {α:Type} {c:Operand} {X Y:Code} {b:Bool} {p q r:Option α} {R1 R0:Prop} (H:(bif b then p else q)=r) (h1:p=r→R1) (h0:q=r→R0) (hb:opT st.sl c=tB b:=by exact rfl) (w1:R1→AWC P N X st AQ:=by exact wJ) (w0:R0→AWC P N Y st AQ:=by exact wJ):AWC P N (.cond c X Y) st AQ:=
 lR hb (fun h=>w1 (h1 (bt h H))) (fun h=>w0 (h0 (bf h H)))
theorem jA {X:Code} {R1 R2:Prop} (M:St) [c:Clo N AQ] (h1:R1) (h2:R2) (w1:R1→AWC P N X st (rF (fun s=>cZ N s M) AQ):=by exact wJ) (w2:R2→AQ .normal M:=by exact wJ):AWC P N X st AQ:=rR M (w1 h1) (w2 h2)
theorem jB {X:Code} {id:Nat} {R1 R2:Prop} (M:St) [c:Clo N AQ] (h1:R1) (h2:R2) (w1:R1→AWC P N X st (i8 id (rF (fun s=>cZ N s M) AQ)):=by exact wJ) (w2:R2→AQ .normal M:=by exact wJ):AWC P N X st (i8 id AQ):=pQ M (w1 h1) (w2 h2)
theorem jR {R1 R2:Prop} (M:St) [c:CloK N K] (h1:R1) (h2:R2) (w1:R1→AWR P N ops l st (fun s=>cZ N s M):=by exact wJ) (w2:R2→K M:=by exact wJ):AWR P N ops l st K:=Ep M (w1 h1) (w2 h2)
theorem zI (is:List Nat) {ll:List Oper} {id:Nat} {r:List (Nat×Oper)} (hr:R) (hm:P.follows .mixedOrders=true:=by exact Try.follows) (he:CX ll.toArray=true:=by kernel_rfl) (hc:Oo ll.length is=true:=by kernel_rfl) (ho:Fy ll is=some r:=by exact rfl) (w:R→DZ P N ll.toArray r [] [] [] st st (fun s=>AQ .normal s):=by exact wJ):AWC P N (.region id ll.toArray true) st AQ:=qt is hm he hc ho (w hr)
theorem dI {ll:List Oper} {id:Nat} (hr:R) (hm:P.follows .mixedOrders=true:=by exact Try.follows) (hol:MJ st.nx st.ob=true:=by exact rfl) (w:R→DR P N ll.toArray ll [] st (fun is t=>zo ll.toArray is st.nx=true∧AQ .normal t):=by exact wJ):AWC P N (.region id ll.toArray true) st AQ:=Ll hm hol (w hr)
section
variable {KK:List Inf→St→Prop} {is:List Inf}
theorem dA (h:NS P N o st st' x) (hr:R) (hg:o.guard=none:=by exact rfl) (w:R→DR P N ops l (is++[x]) st' KK:=by exact wJ):DR P N ops (o::l) is st KK:=dr_n hg h (w hr)
theorem dG {j:Nat} {dj:Tmp} {b:Bool} (h:NS P N o st st' x) (hr:R) (hg:o.guard=some (j,b):=by exact rfl) (hj:(ops[j]?).bind (·.dst)=some dj:=by exact rfl) (hdj:nlt dj N=true:=by exact rfl) (hb:gt st.sl dj=tB b:=by exact rfl) (w:R→DR P N ops l (is++[{x with needs:=(.tmp dj,tB b)::x.needs}]) st' KK:=by exact wJ):DR P N ops (o::l) is st KK:=PS hg hj hdj hb h (w hr)
end
section
variable {α:Type} {p q r:Option α} {R1 R0:Prop} {j:Nat} {dj:Tmp} {b c:Bool} {sl:List (Nat×T)} {ob:List (Nat×Ob)} {nx:Nat}
theorem gC (H:(bif c then p else q)=r) (h1:p=r→R1) (h0:q=r→R0) (hg:o.guard=some (j,b):=by exact rfl) (hj:(ops[j]?).bind (·.dst)=some dj:=by exact rfl) (hb:gt sl dj=tB c:=by exact rfl)
 (w1:R1→AWR P N ops (o::l) ⟨(dj,tB true)::sl,ob,nx⟩ K:=by exact wJ) (w0:R0→AWR P N ops (o::l) ⟨(dj,tB false)::sl,ob,nx⟩ K:=by exact wJ):AWR P N ops (o::l) ⟨sl,ob,nx⟩ K:=
 g2 hg hj hb (fun h=>w1 (h1 (bt h H))) (fun h=>w0 (h0 (bf h H)))
theorem dC {is:List Inf} {KK:List Inf→St→Prop} (H:(bif c then p else q)=r) (h1:p=r→R1) (h0:q=r→R0) (hg:o.guard=some (j,b):=by exact rfl) (hj:(ops[j]?).bind (·.dst)=some dj:=by exact rfl) (hb:gt sl dj=tB c:=by exact rfl)
 (w1:R1→DR P N ops (o::l) is ⟨(dj,tB true)::sl,ob,nx⟩ KK:=by exact wJ) (w0:R0→DR P N ops (o::l) is ⟨(dj,tB false)::sl,ob,nx⟩ KK:=by exact wJ):DR P N ops (o::l) is ⟨sl,ob,nx⟩ KK:=
 dg2 hg hj hb (fun h=>w1 (h1 (bt h H))) (fun h=>w0 (h0 (bf h H)))
end
section
variable {lz:List (Nat×Oper)} {dn seg:List Nat} {ys:List Inx} {base:St} {p:Nat} {y:Inx}
theorem zA (h:NS P N o st st' x) (hr:R) (hg:o.guard=none:=by exact rfl) (w:R→DZ P N ops lz dn (seg++[p]) (ys++[⟨x,[],none⟩]) base st' K:=by exact wJ):DZ P N ops ((p,o)::lz) dn seg ys base st K:=jD hg h (w hr)
theorem wA (h:NX P N o st st' y) (hr:R) (hg:o.guard=none:=by exact rfl) (w:R→DZ P N ops lz dn (seg++[p]) (ys++[y]) base st' K:=by exact wJ):DZ P N ops ((p,o)::lz) dn seg ys base st K:=yl hg h (w hr)
theorem zB {st0 st1 st2:St} {dn':List Nat} (hw:cZ N st st0) (h:BO P N ops o st0 st1) (hw2:cZ N st1 st2) (hr:R) (hs:wk ops dn seg ys=true:=by kernel_rfl) (hkl:kls ys=[]:=by exact rfl) (hb:Es ops (seg++dn) p=true:=by kernel_rfl) (hlo:p::(seg++dn)=dn':=by exact rfl) (w:R→DZ P N ops lz dn' [] [] st2 st2 K:=by exact wJ):DZ P N ops ((p,o)::lz) dn seg ys base st K:=CW hs hkl hb hw h hw2 hlo (w hr)
end
theorem aW (hw:cZ N st st') (hr:R) (w:R→AWR P N ops l st' K:=by exact wJ):AWR P N ops l st K:=bR hw (w hr)
theorem iT {c:Code} {σ ρ:Type} {step:σ→Option (cB σ ρ)} {n:Nat} {x0:σ} {r:ρ} (H:iter step n x0=some r) (S:σ→St) (round:∀x o,step x=some o→AWC P N c (S x) (eE N S r o AQ)) (h0:cZ N st (S x0):=by exact wo):AWC P N (.loop c) st AQ:=pP S H h0 round
end
theorem wB {N nx:Nat} {sl sl':List (Nat×T)} {ob ob':List (Nat×Ob)} (o:Nat) (k:Nat) (hs:ue o k sl=some sl':=by exact rfl) (ho:Ed o k ob=some ob':=by exact rfl) (he:Eqs (KW o k sl):=by repeat (first|exact trivial|refine⟨by first|rfl|simp,?_⟩)) (he2:Eqs (HV o k ob):=by repeat (first|exact trivial|refine⟨by first|rfl|simp,?_⟩)):cZ N ⟨sl,ob,nx⟩ ⟨sl',ob',nx⟩:=qr hs ho he he2
theorem wS {N nx:Nat} {sl:List (Nat×T)} {ob:List (Nat×Ob)} (p q:Nat) (hp:rsv p=false:=by exact rfl) (hq:rsv q=false:=by exact rfl) (hpn:nlt p nx=true:=by exact rfl) (hqn:nlt q nx=true:=by exact rfl):cZ N ⟨sl,ob,nx⟩ ⟨swS p q sl,swO p q ob,nx⟩:=Gz hp hq hpn hqn
end Go.AM
namespace Go.AM
theorem fI {P:Program} {N:Nat} {f:FuncId} {fn:Func} {c:Code} {args:List AV} {rs:List ResultVar} {res:List RV} {sl0:List (Nat×T)} {R:Prop} (hf:P.funcs[f]?=some fn) (hN:fn.ntmps=N) (hr:R) (hb:fn.body=some c:=by exact rfl) (hnm:(fn.name== "runtime.NumGoroutine")=false:=by kernel_rfl) (hrs:fn.results.toList=rs:=by exact rfl)
 (ha:Nat.ble args.length N=true:=by exact rfl) (hs:GH 0 args=some sl0:=by exact rfl) (w:R→AWC P N c ⟨sl0,[],0⟩ (CH N P rs res):=by exact wJ):Fn P f args res:=PU hf hb hnm hN hrs ha hs (w hr)
theorem fW {P:Program} {f:FuncId} {fn:Func} {c:Code} {N:Nat} {x y:Ob} {args:List T} {rs:List ResultVar} {res:List RV} {sl0:List (Nat×T)} {R:Prop} (hf:P.funcs[f]?=some fn) (hN:fn.ntmps=N) (hr:R) (hb:fn.body=some c:=by exact rfl) (hnm:(fn.name== "runtime.NumGoroutine")=false:=by kernel_rfl) (hrs:fn.results.toList=rs:=by exact rfl)
 (ha:Nat.ble args.length N=true:=by exact rfl) (hfx:x.free=true:=by exact rfl) (hfy:y.free=true:=by exact rfl) (hs:rQ 0 args=sl0:=by exact rfl) (w:R→AWC P N c ⟨sl0,[(200,x)],210⟩ (Ej N P rs res y):=by exact wJ):FnW P f x args y res:=QB hf hb hnm hN hrs ha hfx hfy hs (w hr)
theorem fV {P:Program} {f:FuncId} {fn:Func} {c:Code} {N:Nat} {xs ys:List (Nat×Ob)} {args:List T} {rs:List ResultVar} {out:T} {nw:List (Nat×Ob)} {sl0:List (Nat×T)} {R:Prop} (hf:P.funcs[f]?=some fn) (hN:fn.ntmps=N) (hr:R) (hb:fn.body=some c:=by exact rfl) (hnm:(fn.name== "runtime.NumGoroutine")=false:=by kernel_rfl) (hrs:fn.results.toList=rs:=by exact rfl)
 (ha:Nat.ble args.length N=true:=by exact rfl) (hs:rQ 0 args=sl0:=by exact rfl) (w:R→AWC P N c ⟨sl0,xs,210⟩ (rL N P rs ys out nw):=by exact wJ):FnV P f xs args ys out nw:=LZ hf hb hnm hN hrs ha hs (w hr)
end Go.AM
namespace Go
def sJ (N h:Nat):Nat:=Nat.mod (Nat.shiftRight N (10*h)) 1024
def ranked (P:Program) (N:Nat):Bool:=P.funcs.toList.zipIdx.all fun y=>(P.leadsTo y.1).all fun h=>Nat.ble (sJ N h+1) (sJ N y.2)
theorem B7 {P:Program} {N:Nat} (h:ranked P N=true) {g:Nat} {fn:Func} (hg:P.funcs[g]?=some fn):∀x∈P.leadsTo fn,sJ N x<sJ N g:=by
 intro x hx
 unfold ranked at h
 rw[Ui] at h
 have h1:=h (fn,g) (by rw[List.mem_zipIdx_iff_getElem?];simpa using hg)
 rw[Ui] at h1
 exact Nat.le_of_ble_eq_true (h1 x hx)
theorem pC {P:Program} {N r:Nat} (h:ranked P N=true):∀(fuel:Nat) (todo seen:List FuncId),(∀x∈todo,sJ N x≤r)→(∀x∈seen,sJ N x≤r)→∀x∈P.closureVia fuel todo seen,sJ N x≤r
 |0,todo,seen,h1,h2,x,hx=>h2 x (by simpa [Program.closureVia] using hx)
 |n+1,[],seen,h1,h2,x,hx=>h2 x (by simpa [Program.closureVia] using hx)
 |n+1,f::todo,seen,h1,h2,x,hx=>by
  rw[Program.closureVia] at hx
  split at hx
  ·exact pC h n todo seen (fun y hy=>h1 y (by simp[hy])) h2 x hx
  ·refine pC h n _ (f::seen) (fun y hy=>?_) (fun y hy=>?_) x hx
   ·rcases List.mem_append.1 hy with hy|hy
    ·cases e:P.funcs[f]? with
     |none=>rw[e] at hy;simp at hy
     |some fn=>
      rw[e] at hy
      have:=B7 h e y (by simpa using hy)
      have:=h1 f (by simp)
      omega
    ·exact h1 y (by simp[hy])
   ·rcases List.mem_cons.1 hy with rfl|hy
    ·exact h1 _ (by simp)
    ·exact h2 y hy
theorem recurses_of {P:Program} {N:Nat} (h:ranked P N=true) (f:FuncId):P.recurses f=P.unfollowed f:=by
 unfold Program.recurses
 rw[show((P.closure f).any fun g=>((P.funcs[g]?).elim [] P.leadsTo).any fun h=>(P.closure h).contains g)=false from ?_]
 ·simp
 ·rw[Ul]
  intro g hg
  rw[Bool.not_eq_true,Ul]
  intro x hx
  rw[Bool.not_eq_true]
  cases hc:(P.closure x).contains g with
  |false=>rfl
  |true=>
   have hm:g∈P.closure x:=by simpa using hc
   have h1:=pC h (r:=sJ N x) _ [x] [] (by simp) (by simp) g hm
   cases e:P.funcs[g]? with
   |none=>rw[e] at hx;simp at hx
   |some fn=>
    rw[e] at hx
    have:=B7 h e x (by simpa using hx)
    omega
def J0 (P:Program) (l:List FuncId):List String:=
 l.filterMap fun g=>(P.funcs[g]?).bind fun fn=>if fn.ours||fn.body.isNone||fn.name== "runtime.NumGoroutine" then some fn.name else none
def D5 (P:Program) (l:List FuncId):Bool:=
 l.any fun g=>(P.funcs[g]?).any fun fn=>match fn.body with|some c=>c.unfollowed|none=>entryCalls fn
def Gy (P:Program) (l:List FuncId):List String:=
 (((l.flatMap fun g=>((P.funcs[g]?).bind (·.body)).elim [] Code.globalsNamed).eraseDups).filterMap (fun g=>(P.globals[g]?).map (·.name))++
  l.filterMap fun g=>(P.funcs[g]?).bind fun fn=>if fn.body.isNone then entryReads.lookup fn.name else none).eraseDups
theorem inPlace_is {P:Program} {f:FuncId} {l:List FuncId} (h:P.closure f=l):P.inPlace f=J0 P l:=by unfold Program.inPlace;rw[h];rfl
theorem unfollowed_is {P:Program} {f:FuncId} {l:List FuncId} (h:P.closure f=l):P.unfollowed f=D5 P l:=by unfold Program.unfollowed;rw[h];rfl
theorem varsNamed_is {P:Program} {f:FuncId} {l:List FuncId} (h:P.closure f=l):P.varsNamed f=Gy P l:=by unfold Program.varsNamed;rw[h];rfl
end Go
